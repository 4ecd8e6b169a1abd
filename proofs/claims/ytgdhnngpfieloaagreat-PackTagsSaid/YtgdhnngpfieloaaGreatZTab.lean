/-
 The table of the types of this seat, for the value-semantics layer. Written by a program (mktab.py).
-/
import Derived.Test.YtgdhnngpfieloaaGreatZVsBits
import Derived.Test.YtgdhnngpfieloaaGreatRows
import Derived.KernelRfl
namespace Go.Proofs.YtgdhnngpfieloaaGreat.Tab
open Go Go.VS
theorem Zd {P : Program} {t : TypeId} {ti : TI} {z : Value} (hu : P.underlying t = some ti.desc) (hi : (P.info? t).map (fun i => (i.size, i.bytes, i.zero)) = some (ti.size, ti.bytes, some z))
  (hz : z.cells.toList = ti.zero) (hl : ti.zero.all X0m = true) (hn : ti.zero.length = ti.size) (ha : ti.agg = X24 ti.desc)
  (hp : ∀ fs, ti.desc = .struct fs → ∀ w, (fs.mapM fun f => (do pure (f.offset, ← sizeOf f.type) : Sem (Nat × Nat))).run P w = .ok ti.pl.toArray w) : TIok P t ti := by
 refine ⟨hu, ?_, hl, hn, ha, hp⟩
 cases h : P.info? t with
 | none => rw [h] at hi; cases hi
 | some i =>
  rw [h] at hi
  simp only [Option.map_some, Option.some.injEq, Prod.mk.injEq] at hi
  exact ⟨i, z, rfl, hi.1, hi.2.1, hi.2.2, hz⟩
abbrev ti1 : TI := { desc := .func #[] #[] false, size := 1, bytes := 8, zero := [.nilFunc], agg := false }
set_option maxRecDepth 100000 in
theorem ok1 : TIok Tryz.prog 1 ti1 := Zd (z := (.nilFunc)) (by kernel_rfl) (by kernel_rfl) rfl (by decide) rfl rfl (by intro fs h; cases h)
abbrev ti2 : TI := { desc := .int .i64, size := 1, bytes := 8, zero := [.int .i64 0], agg := false }
set_option maxRecDepth 100000 in
theorem ok2 : TIok Tryz.prog 2 ti2 := Zd (z := (.int .i64 0)) (by kernel_rfl) (by kernel_rfl) rfl (by decide) rfl rfl (by intro fs h; cases h)
abbrev ti3 : TI := { desc := .int .i64, size := 1, bytes := 8, zero := [.int .i64 0], agg := false }
set_option maxRecDepth 100000 in
theorem ok3 : TIok Tryz.prog 3 ti3 := Zd (z := (.int .i64 0)) (by kernel_rfl) (by kernel_rfl) rfl (by decide) rfl rfl (by intro fs h; cases h)
abbrev ti4 : TI := { desc := .bool, size := 1, bytes := 1, zero := [.bool false], agg := false }
set_option maxRecDepth 100000 in
theorem ok4 : TIok Tryz.prog 4 ti4 := Zd (z := (.bool false)) (by kernel_rfl) (by kernel_rfl) rfl (by decide) rfl rfl (by intro fs h; cases h)
abbrev ti5 : TI := { desc := .int .u8, size := 1, bytes := 1, zero := [.int .u8 0], agg := false }
set_option maxRecDepth 100000 in
theorem ok5 : TIok Tryz.prog 5 ti5 := Zd (z := (.int .u8 0)) (by kernel_rfl) (by kernel_rfl) rfl (by decide) rfl rfl (by intro fs h; cases h)
abbrev ti9 : TI := { desc := .string, size := 1, bytes := 16, zero := [.string ByteArray.empty], agg := false }
set_option maxRecDepth 100000 in
theorem ok9 : TIok Tryz.prog 9 ti9 := Zd (z := (.string ByteArray.empty)) (by kernel_rfl) (by kernel_rfl) rfl (by decide) rfl rfl (by intro fs h; cases h)
abbrev ti20 : TI := { desc := .interface #[], size := 1, bytes := 16, zero := [.nilIface], agg := false }
set_option maxRecDepth 100000 in
theorem ok20 : TIok Tryz.prog 20 ti20 := Zd (z := (.nilIface)) (by kernel_rfl) (by kernel_rfl) rfl (by decide) rfl rfl (by intro fs h; cases h)
abbrev ti22 : TI := { desc := .slice 5, size := 1, bytes := 24, zero := [.slice none 0 0], agg := false }
set_option maxRecDepth 100000 in
theorem ok22 : TIok Tryz.prog 22 ti22 := Zd (z := (.slice none 0 0)) (by kernel_rfl) (by kernel_rfl) rfl (by decide) rfl rfl (by intro fs h; cases h)
abbrev ti23 : TI := { desc := .slice 63, size := 1, bytes := 24, zero := [.slice none 0 0], agg := false }
set_option maxRecDepth 100000 in
theorem ok23 : TIok Tryz.prog 23 ti23 := Zd (z := (.slice none 0 0)) (by kernel_rfl) (by kernel_rfl) rfl (by decide) rfl rfl (by intro fs h; cases h)
abbrev ti24 : TI := { desc := .slice 57, size := 1, bytes := 24, zero := [.slice none 0 0], agg := false }
set_option maxRecDepth 100000 in
theorem ok24 : TIok Tryz.prog 24 ti24 := Zd (z := (.slice none 0 0)) (by kernel_rfl) (by kernel_rfl) rfl (by decide) rfl rfl (by intro fs h; cases h)
abbrev ti25 : TI := { desc := .slice 59, size := 1, bytes := 24, zero := [.slice none 0 0], agg := false }
set_option maxRecDepth 100000 in
theorem ok25 : TIok Tryz.prog 25 ti25 := Zd (z := (.slice none 0 0)) (by kernel_rfl) (by kernel_rfl) rfl (by decide) rfl rfl (by intro fs h; cases h)
abbrev ti26 : TI := { desc := .slice 44, size := 1, bytes := 24, zero := [.slice none 0 0], agg := false }
set_option maxRecDepth 100000 in
theorem ok26 : TIok Tryz.prog 26 ti26 := Zd (z := (.slice none 0 0)) (by kernel_rfl) (by kernel_rfl) rfl (by decide) rfl rfl (by intro fs h; cases h)
abbrev ti27 : TI := { desc := .struct #[⟨ "Version", 3, 0, false, "", "", 0⟩, ⟨ "Parent", 3, 1, false, "", "", 8⟩, ⟨ "Sections", 23, 2, false, "", "", 16⟩, ⟨ "Points", 24, 3, false, "", "", 40⟩, ⟨ "Signals", 25, 4, false, "", "", 64⟩, ⟨ "Routes", 26, 5, false, "", "", 88⟩], size := 6, bytes := 112, zero := [.int .i64 0, .int .i64 0, .slice none 0 0, .slice none 0 0, .slice none 0 0, .slice none 0 0], agg := true, pl := [(0, 1), (1, 1), (2, 1), (3, 1), (4, 1), (5, 1)] }
set_option maxRecDepth 100000 in
theorem ok27 : TIok Tryz.prog 27 ti27 := Zd (z := (.agg ([.int .i64 0, .int .i64 0, .slice none 0 0, .slice none 0 0, .slice none 0 0, .slice none 0 0] : List Value).toArray)) (by kernel_rfl) (by kernel_rfl) rfl (by decide) rfl rfl (by intro fs h; injection h with h; subst h; intro w; kernel_rfl)
abbrev ti28 : TI := { desc := .struct #[⟨ "Version", 3, 0, false, "", "", 0⟩, ⟨ "Parent", 3, 1, false, "", "", 8⟩, ⟨ "Sections", 23, 2, false, "", "", 16⟩, ⟨ "Points", 24, 3, false, "", "", 40⟩, ⟨ "Signals", 25, 4, false, "", "", 64⟩, ⟨ "Routes", 26, 5, false, "", "", 88⟩], size := 6, bytes := 112, zero := [.int .i64 0, .int .i64 0, .slice none 0 0, .slice none 0 0, .slice none 0 0, .slice none 0 0], agg := true, pl := [(0, 1), (1, 1), (2, 1), (3, 1), (4, 1), (5, 1)] }
set_option maxRecDepth 100000 in
theorem ok28 : TIok Tryz.prog 28 ti28 := Zd (z := (.agg ([.int .i64 0, .int .i64 0, .slice none 0 0, .slice none 0 0, .slice none 0 0, .slice none 0 0] : List Value).toArray)) (by kernel_rfl) (by kernel_rfl) rfl (by decide) rfl rfl (by intro fs h; injection h with h; subst h; intro w; kernel_rfl)
abbrev ti30 : TI := { desc := .int .i64, size := 1, bytes := 8, zero := [.int .i64 0], agg := false }
set_option maxRecDepth 100000 in
theorem ok30 : TIok Tryz.prog 30 ti30 := Zd (z := (.int .i64 0)) (by kernel_rfl) (by kernel_rfl) rfl (by decide) rfl rfl (by intro fs h; cases h)
abbrev ti32 : TI := { desc := .func #[22, 28] #[22, 30] false, size := 1, bytes := 8, zero := [.nilFunc], agg := false }
set_option maxRecDepth 100000 in
theorem ok32 : TIok Tryz.prog 32 ti32 := Zd (z := (.nilFunc)) (by kernel_rfl) (by kernel_rfl) rfl (by decide) rfl rfl (by intro fs h; cases h)
abbrev ti41 : TI := { desc := .slice 3, size := 1, bytes := 24, zero := [.slice none 0 0], agg := false }
set_option maxRecDepth 100000 in
theorem ok41 : TIok Tryz.prog 41 ti41 := Zd (z := (.slice none 0 0)) (by kernel_rfl) (by kernel_rfl) rfl (by decide) rfl rfl (by intro fs h; cases h)
abbrev ti42 : TI := { desc := .slice 91, size := 1, bytes := 24, zero := [.slice none 0 0], agg := false }
set_option maxRecDepth 100000 in
theorem ok42 : TIok Tryz.prog 42 ti42 := Zd (z := (.slice none 0 0)) (by kernel_rfl) (by kernel_rfl) rfl (by decide) rfl rfl (by intro fs h; cases h)
abbrev ti43 : TI := { desc := .struct #[⟨ "Id", 3, 0, false, "", "", 0⟩, ⟨ "Entry", 3, 1, false, "", "", 8⟩, ⟨ "Exit", 3, 2, false, "", "", 16⟩, ⟨ "Path", 41, 3, false, "", "", 24⟩, ⟨ "Over", 41, 4, false, "", "", 48⟩, ⟨ "Flanks", 42, 5, false, "", "", 72⟩, ⟨ "Timer", 3, 6, false, "", "", 96⟩], size := 7, bytes := 104, zero := [.int .i64 0, .int .i64 0, .int .i64 0, .slice none 0 0, .slice none 0 0, .slice none 0 0, .int .i64 0], agg := true, pl := [(0, 1), (1, 1), (2, 1), (3, 1), (4, 1), (5, 1), (6, 1)] }
set_option maxRecDepth 100000 in
theorem ok43 : TIok Tryz.prog 43 ti43 := Zd (z := (.agg ([.int .i64 0, .int .i64 0, .int .i64 0, .slice none 0 0, .slice none 0 0, .slice none 0 0, .int .i64 0] : List Value).toArray)) (by kernel_rfl) (by kernel_rfl) rfl (by decide) rfl rfl (by intro fs h; injection h with h; subst h; intro w; kernel_rfl)
abbrev ti44 : TI := { desc := .struct #[⟨ "Id", 3, 0, false, "", "", 0⟩, ⟨ "Entry", 3, 1, false, "", "", 8⟩, ⟨ "Exit", 3, 2, false, "", "", 16⟩, ⟨ "Path", 41, 3, false, "", "", 24⟩, ⟨ "Over", 41, 4, false, "", "", 48⟩, ⟨ "Flanks", 42, 5, false, "", "", 72⟩, ⟨ "Timer", 3, 6, false, "", "", 96⟩], size := 7, bytes := 104, zero := [.int .i64 0, .int .i64 0, .int .i64 0, .slice none 0 0, .slice none 0 0, .slice none 0 0, .int .i64 0], agg := true, pl := [(0, 1), (1, 1), (2, 1), (3, 1), (4, 1), (5, 1), (6, 1)] }
set_option maxRecDepth 100000 in
theorem ok44 : TIok Tryz.prog 44 ti44 := Zd (z := (.agg ([.int .i64 0, .int .i64 0, .int .i64 0, .slice none 0 0, .slice none 0 0, .slice none 0 0, .int .i64 0] : List Value).toArray)) (by kernel_rfl) (by kernel_rfl) rfl (by decide) rfl rfl (by intro fs h; injection h with h; subst h; intro w; kernel_rfl)
abbrev ti47 : TI := { desc := .array 32 5, size := 32, bytes := 32, zero := List.replicate 32 (.int .u8 0), agg := true }
set_option maxRecDepth 100000 in
theorem ok47 : TIok Tryz.prog 47 ti47 := Zd (z := (.agg (List.replicate 32 (.int .u8 0) : List Value).toArray)) (by kernel_rfl) (by kernel_rfl) rfl (by decide) rfl rfl (by intro fs h; cases h)
abbrev ti56 : TI := { desc := .struct #[⟨ "Id", 3, 0, false, "", "", 0⟩, ⟨ "Section", 3, 1, false, "", "", 8⟩], size := 2, bytes := 16, zero := [.int .i64 0, .int .i64 0], agg := true, pl := [(0, 1), (1, 1)] }
set_option maxRecDepth 100000 in
theorem ok56 : TIok Tryz.prog 56 ti56 := Zd (z := (.agg ([.int .i64 0, .int .i64 0] : List Value).toArray)) (by kernel_rfl) (by kernel_rfl) rfl (by decide) rfl rfl (by intro fs h; injection h with h; subst h; intro w; kernel_rfl)
abbrev ti57 : TI := { desc := .struct #[⟨ "Id", 3, 0, false, "", "", 0⟩, ⟨ "Section", 3, 1, false, "", "", 8⟩], size := 2, bytes := 16, zero := [.int .i64 0, .int .i64 0], agg := true, pl := [(0, 1), (1, 1)] }
set_option maxRecDepth 100000 in
theorem ok57 : TIok Tryz.prog 57 ti57 := Zd (z := (.agg ([.int .i64 0, .int .i64 0] : List Value).toArray)) (by kernel_rfl) (by kernel_rfl) rfl (by decide) rfl rfl (by intro fs h; injection h with h; subst h; intro w; kernel_rfl)
abbrev ti58 : TI := { desc := .struct #[⟨ "Id", 3, 0, false, "", "", 0⟩, ⟨ "Section", 3, 1, false, "", "", 8⟩, ⟨ "End", 3, 2, false, "", "", 16⟩], size := 3, bytes := 24, zero := [.int .i64 0, .int .i64 0, .int .i64 0], agg := true, pl := [(0, 1), (1, 1), (2, 1)] }
set_option maxRecDepth 100000 in
theorem ok58 : TIok Tryz.prog 58 ti58 := Zd (z := (.agg ([.int .i64 0, .int .i64 0, .int .i64 0] : List Value).toArray)) (by kernel_rfl) (by kernel_rfl) rfl (by decide) rfl rfl (by intro fs h; injection h with h; subst h; intro w; kernel_rfl)
abbrev ti59 : TI := { desc := .struct #[⟨ "Id", 3, 0, false, "", "", 0⟩, ⟨ "Section", 3, 1, false, "", "", 8⟩, ⟨ "End", 3, 2, false, "", "", 16⟩], size := 3, bytes := 24, zero := [.int .i64 0, .int .i64 0, .int .i64 0], agg := true, pl := [(0, 1), (1, 1), (2, 1)] }
set_option maxRecDepth 100000 in
theorem ok59 : TIok Tryz.prog 59 ti59 := Zd (z := (.agg ([.int .i64 0, .int .i64 0, .int .i64 0] : List Value).toArray)) (by kernel_rfl) (by kernel_rfl) rfl (by decide) rfl rfl (by intro fs h; injection h with h; subst h; intro w; kernel_rfl)
abbrev ti61 : TI := { desc := .slice 79, size := 1, bytes := 24, zero := [.slice none 0 0], agg := false }
set_option maxRecDepth 100000 in
theorem ok61 : TIok Tryz.prog 61 ti61 := Zd (z := (.slice none 0 0)) (by kernel_rfl) (by kernel_rfl) rfl (by decide) rfl rfl (by intro fs h; cases h)
abbrev ti62 : TI := { desc := .struct #[⟨ "Id", 3, 0, false, "", "", 0⟩, ⟨ "Point", 3, 1, false, "", "", 8⟩, ⟨ "Ends", 61, 2, false, "", "", 16⟩], size := 3, bytes := 40, zero := [.int .i64 0, .int .i64 0, .slice none 0 0], agg := true, pl := [(0, 1), (1, 1), (2, 1)] }
set_option maxRecDepth 100000 in
theorem ok62 : TIok Tryz.prog 62 ti62 := Zd (z := (.agg ([.int .i64 0, .int .i64 0, .slice none 0 0] : List Value).toArray)) (by kernel_rfl) (by kernel_rfl) rfl (by decide) rfl rfl (by intro fs h; injection h with h; subst h; intro w; kernel_rfl)
abbrev ti63 : TI := { desc := .struct #[⟨ "Id", 3, 0, false, "", "", 0⟩, ⟨ "Point", 3, 1, false, "", "", 8⟩, ⟨ "Ends", 61, 2, false, "", "", 16⟩], size := 3, bytes := 40, zero := [.int .i64 0, .int .i64 0, .slice none 0 0], agg := true, pl := [(0, 1), (1, 1), (2, 1)] }
set_option maxRecDepth 100000 in
theorem ok63 : TIok Tryz.prog 63 ti63 := Zd (z := (.agg ([.int .i64 0, .int .i64 0, .slice none 0 0] : List Value).toArray)) (by kernel_rfl) (by kernel_rfl) rfl (by decide) rfl rfl (by intro fs h; injection h with h; subst h; intro w; kernel_rfl)
abbrev ti64 : TI := { desc := .func #[28] #[30] false, size := 1, bytes := 8, zero := [.nilFunc], agg := false }
set_option maxRecDepth 100000 in
theorem ok64 : TIok Tryz.prog 64 ti64 := Zd (z := (.nilFunc)) (by kernel_rfl) (by kernel_rfl) rfl (by decide) rfl rfl (by intro fs h; cases h)
abbrev ti65 : TI := { desc := .slice 5, size := 1, bytes := 24, zero := [.slice none 0 0], agg := false }
set_option maxRecDepth 100000 in
theorem ok65 : TIok Tryz.prog 65 ti65 := Zd (z := (.slice none 0 0)) (by kernel_rfl) (by kernel_rfl) rfl (by decide) rfl rfl (by intro fs h; cases h)
abbrev ti67 : TI := { desc := .array 64 5, size := 64, bytes := 64, zero := List.replicate 64 (.int .u8 0), agg := true }
set_option maxRecDepth 100000 in
theorem ok67 : TIok Tryz.prog 67 ti67 := Zd (z := (.agg (List.replicate 64 (.int .u8 0) : List Value).toArray)) (by kernel_rfl) (by kernel_rfl) rfl (by decide) rfl rfl (by intro fs h; cases h)
abbrev ti70 : TI := { desc := .func #[5, 22] #[47] false, size := 1, bytes := 8, zero := [.nilFunc], agg := false }
set_option maxRecDepth 100000 in
theorem ok70 : TIok Tryz.prog 70 ti70 := Zd (z := (.nilFunc)) (by kernel_rfl) (by kernel_rfl) rfl (by decide) rfl rfl (by intro fs h; cases h)
abbrev ti75 : TI := { desc := .func #[] #[3] false, size := 1, bytes := 8, zero := [.nilFunc], agg := false }
set_option maxRecDepth 100000 in
theorem ok75 : TIok Tryz.prog 75 ti75 := Zd (z := (.nilFunc)) (by kernel_rfl) (by kernel_rfl) rfl (by decide) rfl rfl (by intro fs h; cases h)
abbrev ti76 : TI := { desc := .struct #[⟨ "next", 75, 0, false, "", "leverframe/pack", 0⟩], size := 1, bytes := 8, zero := [.nilFunc], agg := true, pl := [(0, 1)] }
set_option maxRecDepth 100000 in
theorem ok76 : TIok Tryz.prog 76 ti76 := Zd (z := (.agg ([.nilFunc] : List Value).toArray)) (by kernel_rfl) (by kernel_rfl) rfl (by decide) rfl rfl (by intro fs h; injection h with h; subst h; intro w; kernel_rfl)
abbrev ti77 : TI := { desc := .struct #[⟨ "next", 75, 0, false, "", "leverframe/pack", 0⟩], size := 1, bytes := 8, zero := [.nilFunc], agg := true, pl := [(0, 1)] }
set_option maxRecDepth 100000 in
theorem ok77 : TIok Tryz.prog 77 ti77 := Zd (z := (.agg ([.nilFunc] : List Value).toArray)) (by kernel_rfl) (by kernel_rfl) rfl (by decide) rfl rfl (by intro fs h; injection h with h; subst h; intro w; kernel_rfl)
abbrev ti78 : TI := { desc := .struct #[⟨ "To", 3, 0, false, "", "", 0⟩, ⟨ "End", 3, 1, false, "", "", 8⟩], size := 2, bytes := 16, zero := [.int .i64 0, .int .i64 0], agg := true, pl := [(0, 1), (1, 1)] }
set_option maxRecDepth 100000 in
theorem ok78 : TIok Tryz.prog 78 ti78 := Zd (z := (.agg ([.int .i64 0, .int .i64 0] : List Value).toArray)) (by kernel_rfl) (by kernel_rfl) rfl (by decide) rfl rfl (by intro fs h; injection h with h; subst h; intro w; kernel_rfl)
abbrev ti79 : TI := { desc := .struct #[⟨ "To", 3, 0, false, "", "", 0⟩, ⟨ "End", 3, 1, false, "", "", 8⟩], size := 2, bytes := 16, zero := [.int .i64 0, .int .i64 0], agg := true, pl := [(0, 1), (1, 1)] }
set_option maxRecDepth 100000 in
theorem ok79 : TIok Tryz.prog 79 ti79 := Zd (z := (.agg ([.int .i64 0, .int .i64 0] : List Value).toArray)) (by kernel_rfl) (by kernel_rfl) rfl (by decide) rfl rfl (by intro fs h; injection h with h; subst h; intro w; kernel_rfl)
abbrev ti80 : TI := { desc := .func #[] #[79] false, size := 1, bytes := 8, zero := [.nilFunc], agg := false }
set_option maxRecDepth 100000 in
theorem ok80 : TIok Tryz.prog 80 ti80 := Zd (z := (.nilFunc)) (by kernel_rfl) (by kernel_rfl) rfl (by decide) rfl rfl (by intro fs h; cases h)
abbrev ti82 : TI := { desc := .func #[] #[63] false, size := 1, bytes := 8, zero := [.nilFunc], agg := false }
set_option maxRecDepth 100000 in
theorem ok82 : TIok Tryz.prog 82 ti82 := Zd (z := (.nilFunc)) (by kernel_rfl) (by kernel_rfl) rfl (by decide) rfl rfl (by intro fs h; cases h)
abbrev ti84 : TI := { desc := .func #[] #[57] false, size := 1, bytes := 8, zero := [.nilFunc], agg := false }
set_option maxRecDepth 100000 in
theorem ok84 : TIok Tryz.prog 84 ti84 := Zd (z := (.nilFunc)) (by kernel_rfl) (by kernel_rfl) rfl (by decide) rfl rfl (by intro fs h; cases h)
abbrev ti86 : TI := { desc := .func #[] #[59] false, size := 1, bytes := 8, zero := [.nilFunc], agg := false }
set_option maxRecDepth 100000 in
theorem ok86 : TIok Tryz.prog 86 ti86 := Zd (z := (.nilFunc)) (by kernel_rfl) (by kernel_rfl) rfl (by decide) rfl rfl (by intro fs h; cases h)
abbrev ti90 : TI := { desc := .struct #[⟨ "Point", 3, 0, false, "", "", 0⟩, ⟨ "Lie", 3, 1, false, "", "", 8⟩], size := 2, bytes := 16, zero := [.int .i64 0, .int .i64 0], agg := true, pl := [(0, 1), (1, 1)] }
set_option maxRecDepth 100000 in
theorem ok90 : TIok Tryz.prog 90 ti90 := Zd (z := (.agg ([.int .i64 0, .int .i64 0] : List Value).toArray)) (by kernel_rfl) (by kernel_rfl) rfl (by decide) rfl rfl (by intro fs h; injection h with h; subst h; intro w; kernel_rfl)
abbrev ti91 : TI := { desc := .struct #[⟨ "Point", 3, 0, false, "", "", 0⟩, ⟨ "Lie", 3, 1, false, "", "", 8⟩], size := 2, bytes := 16, zero := [.int .i64 0, .int .i64 0], agg := true, pl := [(0, 1), (1, 1)] }
set_option maxRecDepth 100000 in
theorem ok91 : TIok Tryz.prog 91 ti91 := Zd (z := (.agg ([.int .i64 0, .int .i64 0] : List Value).toArray)) (by kernel_rfl) (by kernel_rfl) rfl (by decide) rfl rfl (by intro fs h; injection h with h; subst h; intro w; kernel_rfl)
abbrev ti92 : TI := { desc := .func #[] #[91] false, size := 1, bytes := 8, zero := [.nilFunc], agg := false }
set_option maxRecDepth 100000 in
theorem ok92 : TIok Tryz.prog 92 ti92 := Zd (z := (.nilFunc)) (by kernel_rfl) (by kernel_rfl) rfl (by decide) rfl rfl (by intro fs h; cases h)
abbrev ti93 : TI := { desc := .func #[] #[44] false, size := 1, bytes := 8, zero := [.nilFunc], agg := false }
set_option maxRecDepth 100000 in
theorem ok93 : TIok Tryz.prog 93 ti93 := Zd (z := (.nilFunc)) (by kernel_rfl) (by kernel_rfl) rfl (by decide) rfl rfl (by intro fs h; cases h)
abbrev ti100 : TI := { desc := .func #[63, 63] #[4] false, size := 1, bytes := 8, zero := [.nilFunc], agg := false }
set_option maxRecDepth 100000 in
theorem ok100 : TIok Tryz.prog 100 ti100 := Zd (z := (.nilFunc)) (by kernel_rfl) (by kernel_rfl) rfl (by decide) rfl rfl (by intro fs h; cases h)
abbrev ti103 : TI := { desc := .array 100 3, size := 100, bytes := 800, zero := List.replicate 100 (.int .i64 0), agg := true }
set_option maxRecDepth 100000 in
theorem ok103 : TIok Tryz.prog 103 ti103 := Zd (z := (.agg (List.replicate 100 (.int .i64 0) : List Value).toArray)) (by kernel_rfl) (by kernel_rfl) rfl (by decide) rfl rfl (by intro fs h; cases h)
abbrev ti109 : TI := { desc := .func #[3] #[] false, size := 1, bytes := 8, zero := [.nilFunc], agg := false }
set_option maxRecDepth 100000 in
theorem ok109 : TIok Tryz.prog 109 ti109 := Zd (z := (.nilFunc)) (by kernel_rfl) (by kernel_rfl) rfl (by decide) rfl rfl (by intro fs h; cases h)
abbrev ti111 : TI := { desc := .pointer 65, size := 1, bytes := 8, zero := [.pointer none], agg := false }
set_option maxRecDepth 100000 in
theorem ok111 : TIok Tryz.prog 111 ti111 := Zd (z := (.pointer none)) (by kernel_rfl) (by kernel_rfl) rfl (by decide) rfl rfl (by intro fs h; cases h)
abbrev ti112 : TI := { desc := .func #[63] #[] false, size := 1, bytes := 8, zero := [.nilFunc], agg := false }
set_option maxRecDepth 100000 in
theorem ok112 : TIok Tryz.prog 112 ti112 := Zd (z := (.nilFunc)) (by kernel_rfl) (by kernel_rfl) rfl (by decide) rfl rfl (by intro fs h; cases h)
abbrev ti114 : TI := { desc := .func #[57] #[] false, size := 1, bytes := 8, zero := [.nilFunc], agg := false }
set_option maxRecDepth 100000 in
theorem ok114 : TIok Tryz.prog 114 ti114 := Zd (z := (.nilFunc)) (by kernel_rfl) (by kernel_rfl) rfl (by decide) rfl rfl (by intro fs h; cases h)
abbrev ti116 : TI := { desc := .func #[59] #[] false, size := 1, bytes := 8, zero := [.nilFunc], agg := false }
set_option maxRecDepth 100000 in
theorem ok116 : TIok Tryz.prog 116 ti116 := Zd (z := (.nilFunc)) (by kernel_rfl) (by kernel_rfl) rfl (by decide) rfl rfl (by intro fs h; cases h)
abbrev ti120 : TI := { desc := .func #[91] #[] false, size := 1, bytes := 8, zero := [.nilFunc], agg := false }
set_option maxRecDepth 100000 in
theorem ok120 : TIok Tryz.prog 120 ti120 := Zd (z := (.nilFunc)) (by kernel_rfl) (by kernel_rfl) rfl (by decide) rfl rfl (by intro fs h; cases h)
abbrev ti121 : TI := { desc := .func #[44] #[] false, size := 1, bytes := 8, zero := [.nilFunc], agg := false }
set_option maxRecDepth 100000 in
theorem ok121 : TIok Tryz.prog 121 ti121 := Zd (z := (.nilFunc)) (by kernel_rfl) (by kernel_rfl) rfl (by decide) rfl rfl (by intro fs h; cases h)
abbrev ti122 : TI := { desc := .int .u32, size := 1, bytes := 4, zero := [.int .u32 0], agg := false }
set_option maxRecDepth 100000 in
theorem ok122 : TIok Tryz.prog 122 ti122 := Zd (z := (.int .u32 0)) (by kernel_rfl) (by kernel_rfl) rfl (by decide) rfl rfl (by intro fs h; cases h)
abbrev ti123 : TI := { desc := .array 8 122, size := 8, bytes := 32, zero := [.int .u32 0, .int .u32 0, .int .u32 0, .int .u32 0, .int .u32 0, .int .u32 0, .int .u32 0, .int .u32 0], agg := true }
set_option maxRecDepth 100000 in
theorem ok123 : TIok Tryz.prog 123 ti123 := Zd (z := (.agg ([.int .u32 0, .int .u32 0, .int .u32 0, .int .u32 0, .int .u32 0, .int .u32 0, .int .u32 0, .int .u32 0] : List Value).toArray)) (by kernel_rfl) (by kernel_rfl) rfl (by decide) rfl rfl (by intro fs h; cases h)
abbrev ti125 : TI := { desc := .func #[165] #[] false, size := 1, bytes := 8, zero := [.nilFunc], agg := false }
set_option maxRecDepth 100000 in
theorem ok125 : TIok Tryz.prog 125 ti125 := Zd (z := (.nilFunc)) (by kernel_rfl) (by kernel_rfl) rfl (by decide) rfl rfl (by intro fs h; cases h)
abbrev ti126 : TI := { desc := .func #[165] #[] false, size := 1, bytes := 8, zero := [.nilFunc], agg := false }
set_option maxRecDepth 100000 in
theorem ok126 : TIok Tryz.prog 126 ti126 := Zd (z := (.nilFunc)) (by kernel_rfl) (by kernel_rfl) rfl (by decide) rfl rfl (by intro fs h; cases h)
abbrev ti131 : TI := { desc := .int .u64, size := 1, bytes := 8, zero := [.int .u64 0], agg := false }
set_option maxRecDepth 100000 in
theorem ok131 : TIok Tryz.prog 131 ti131 := Zd (z := (.int .u64 0)) (by kernel_rfl) (by kernel_rfl) rfl (by decide) rfl rfl (by intro fs h; cases h)
abbrev ti132 : TI := { desc := .slice 22, size := 1, bytes := 24, zero := [.slice none 0 0], agg := false }
set_option maxRecDepth 100000 in
theorem ok132 : TIok Tryz.prog 132 ti132 := Zd (z := (.slice none 0 0)) (by kernel_rfl) (by kernel_rfl) rfl (by decide) rfl rfl (by intro fs h; cases h)
abbrev ti147 : TI := { desc := .array 100 4, size := 100, bytes := 100, zero := List.replicate 100 (.bool false), agg := true }
set_option maxRecDepth 100000 in
theorem ok147 : TIok Tryz.prog 147 ti147 := Zd (z := (.agg (List.replicate 100 (.bool false) : List Value).toArray)) (by kernel_rfl) (by kernel_rfl) rfl (by decide) rfl rfl (by intro fs h; cases h)
abbrev ti153 : TI := { desc := .func #[57] #[4] false, size := 1, bytes := 8, zero := [.nilFunc], agg := false }
set_option maxRecDepth 100000 in
theorem ok153 : TIok Tryz.prog 153 ti153 := Zd (z := (.nilFunc)) (by kernel_rfl) (by kernel_rfl) rfl (by decide) rfl rfl (by intro fs h; cases h)
abbrev ti155 : TI := { desc := .array 3 4, size := 3, bytes := 3, zero := [.bool false, .bool false, .bool false], agg := true }
set_option maxRecDepth 100000 in
theorem ok155 : TIok Tryz.prog 155 ti155 := Zd (z := (.agg ([.bool false, .bool false, .bool false] : List Value).toArray)) (by kernel_rfl) (by kernel_rfl) rfl (by decide) rfl rfl (by intro fs h; cases h)
abbrev ti156 : TI := { desc := .array 100 155, size := 300, bytes := 300, zero := List.replicate 300 (.bool false), agg := true }
set_option maxRecDepth 100000 in
theorem ok156 : TIok Tryz.prog 156 ti156 := Zd (z := (.agg (List.replicate 300 (.bool false) : List Value).toArray)) (by kernel_rfl) (by kernel_rfl) rfl (by decide) rfl rfl (by intro fs h; cases h)
abbrev ti161 : TI := { desc := .slice 41, size := 1, bytes := 24, zero := [.slice none 0 0], agg := false }
set_option maxRecDepth 100000 in
theorem ok161 : TIok Tryz.prog 161 ti161 := Zd (z := (.slice none 0 0)) (by kernel_rfl) (by kernel_rfl) rfl (by decide) rfl rfl (by intro fs h; cases h)
abbrev ti165 : TI := { desc := .func #[22] #[4] false, size := 1, bytes := 8, zero := [.nilFunc], agg := false }
set_option maxRecDepth 100000 in
theorem ok165 : TIok Tryz.prog 165 ti165 := Zd (z := (.nilFunc)) (by kernel_rfl) (by kernel_rfl) rfl (by decide) rfl rfl (by intro fs h; cases h)
abbrev ti166 : TI := { desc := .array 64 122, size := 64, bytes := 256, zero := List.replicate 64 (.int .u32 0), agg := true }
set_option maxRecDepth 100000 in
theorem ok166 : TIok Tryz.prog 166 ti166 := Zd (z := (.agg (List.replicate 64 (.int .u32 0) : List Value).toArray)) (by kernel_rfl) (by kernel_rfl) rfl (by decide) rfl rfl (by intro fs h; cases h)
abbrev ti171 : TI := { desc := .slice 122, size := 1, bytes := 24, zero := [.slice none 0 0], agg := false }
set_option maxRecDepth 100000 in
theorem ok171 : TIok Tryz.prog 171 ti171 := Zd (z := (.slice none 0 0)) (by kernel_rfl) (by kernel_rfl) rfl (by decide) rfl rfl (by intro fs h; cases h)
abbrev ti178 : TI := { desc := .func #[63, 3] #[3] false, size := 1, bytes := 8, zero := [.nilFunc], agg := false }
set_option maxRecDepth 100000 in
theorem ok178 : TIok Tryz.prog 178 ti178 := Zd (z := (.nilFunc)) (by kernel_rfl) (by kernel_rfl) rfl (by decide) rfl rfl (by intro fs h; cases h)
abbrev ti183 : TI := { desc := .func #[59] #[4] false, size := 1, bytes := 8, zero := [.nilFunc], agg := false }
set_option maxRecDepth 100000 in
theorem ok183 : TIok Tryz.prog 183 ti183 := Zd (z := (.nilFunc)) (by kernel_rfl) (by kernel_rfl) rfl (by decide) rfl rfl (by intro fs h; cases h)
abbrev ti184 : TI := { desc := .func #[189] #[] false, size := 1, bytes := 8, zero := [.nilFunc], agg := false }
set_option maxRecDepth 100000 in
theorem ok184 : TIok Tryz.prog 184 ti184 := Zd (z := (.nilFunc)) (by kernel_rfl) (by kernel_rfl) rfl (by decide) rfl rfl (by intro fs h; cases h)
abbrev ti185 : TI := { desc := .func #[189] #[] false, size := 1, bytes := 8, zero := [.nilFunc], agg := false }
set_option maxRecDepth 100000 in
theorem ok185 : TIok Tryz.prog 185 ti185 := Zd (z := (.nilFunc)) (by kernel_rfl) (by kernel_rfl) rfl (by decide) rfl rfl (by intro fs h; cases h)
abbrev ti187 : TI := { desc := .int .u64, size := 1, bytes := 8, zero := [.int .u64 0], agg := false }
set_option maxRecDepth 100000 in
theorem ok187 : TIok Tryz.prog 187 ti187 := Zd (z := (.int .u64 0)) (by kernel_rfl) (by kernel_rfl) rfl (by decide) rfl rfl (by intro fs h; cases h)
abbrev ti189 : TI := { desc := .func #[5, 4] #[4] false, size := 1, bytes := 8, zero := [.nilFunc], agg := false }
set_option maxRecDepth 100000 in
theorem ok189 : TIok Tryz.prog 189 ti189 := Zd (z := (.nilFunc)) (by kernel_rfl) (by kernel_rfl) rfl (by decide) rfl rfl (by intro fs h; cases h)
def tab : TypeId → Option TI := fun t =>
 match t with
 | 1 => some ti1
 | 2 => some ti2
 | 3 => some ti3
 | 4 => some ti4
 | 5 => some ti5
 | 9 => some ti9
 | 20 => some ti20
 | 22 => some ti22
 | 23 => some ti23
 | 24 => some ti24
 | 25 => some ti25
 | 26 => some ti26
 | 27 => some ti27
 | 28 => some ti28
 | 30 => some ti30
 | 32 => some ti32
 | 41 => some ti41
 | 42 => some ti42
 | 43 => some ti43
 | 44 => some ti44
 | 47 => some ti47
 | 56 => some ti56
 | 57 => some ti57
 | 58 => some ti58
 | 59 => some ti59
 | 61 => some ti61
 | 62 => some ti62
 | 63 => some ti63
 | 64 => some ti64
 | 65 => some ti65
 | 67 => some ti67
 | 70 => some ti70
 | 75 => some ti75
 | 76 => some ti76
 | 77 => some ti77
 | 78 => some ti78
 | 79 => some ti79
 | 80 => some ti80
 | 82 => some ti82
 | 84 => some ti84
 | 86 => some ti86
 | 90 => some ti90
 | 91 => some ti91
 | 92 => some ti92
 | 93 => some ti93
 | 100 => some ti100
 | 103 => some ti103
 | 109 => some ti109
 | 111 => some ti111
 | 112 => some ti112
 | 114 => some ti114
 | 116 => some ti116
 | 120 => some ti120
 | 121 => some ti121
 | 122 => some ti122
 | 123 => some ti123
 | 125 => some ti125
 | 126 => some ti126
 | 131 => some ti131
 | 132 => some ti132
 | 147 => some ti147
 | 153 => some ti153
 | 155 => some ti155
 | 156 => some ti156
 | 161 => some ti161
 | 165 => some ti165
 | 166 => some ti166
 | 171 => some ti171
 | 178 => some ti178
 | 183 => some ti183
 | 184 => some ti184
 | 185 => some ti185
 | 187 => some ti187
 | 189 => some ti189
 | _ => none
theorem Xj : Qw Tryz.prog tab := by
 intro t ti h
 unfold tab at h
 split at h
 ·cases h; exact ok1
 ·cases h; exact ok2
 ·cases h; exact ok3
 ·cases h; exact ok4
 ·cases h; exact ok5
 ·cases h; exact ok9
 ·cases h; exact ok20
 ·cases h; exact ok22
 ·cases h; exact ok23
 ·cases h; exact ok24
 ·cases h; exact ok25
 ·cases h; exact ok26
 ·cases h; exact ok27
 ·cases h; exact ok28
 ·cases h; exact ok30
 ·cases h; exact ok32
 ·cases h; exact ok41
 ·cases h; exact ok42
 ·cases h; exact ok43
 ·cases h; exact ok44
 ·cases h; exact ok47
 ·cases h; exact ok56
 ·cases h; exact ok57
 ·cases h; exact ok58
 ·cases h; exact ok59
 ·cases h; exact ok61
 ·cases h; exact ok62
 ·cases h; exact ok63
 ·cases h; exact ok64
 ·cases h; exact ok65
 ·cases h; exact ok67
 ·cases h; exact ok70
 ·cases h; exact ok75
 ·cases h; exact ok76
 ·cases h; exact ok77
 ·cases h; exact ok78
 ·cases h; exact ok79
 ·cases h; exact ok80
 ·cases h; exact ok82
 ·cases h; exact ok84
 ·cases h; exact ok86
 ·cases h; exact ok90
 ·cases h; exact ok91
 ·cases h; exact ok92
 ·cases h; exact ok93
 ·cases h; exact ok100
 ·cases h; exact ok103
 ·cases h; exact ok109
 ·cases h; exact ok111
 ·cases h; exact ok112
 ·cases h; exact ok114
 ·cases h; exact ok116
 ·cases h; exact ok120
 ·cases h; exact ok121
 ·cases h; exact ok122
 ·cases h; exact ok123
 ·cases h; exact ok125
 ·cases h; exact ok126
 ·cases h; exact ok131
 ·cases h; exact ok132
 ·cases h; exact ok147
 ·cases h; exact ok153
 ·cases h; exact ok155
 ·cases h; exact ok156
 ·cases h; exact ok161
 ·cases h; exact ok165
 ·cases h; exact ok166
 ·cases h; exact ok171
 ·cases h; exact ok178
 ·cases h; exact ok183
 ·cases h; exact ok184
 ·cases h; exact ok185
 ·cases h; exact ok187
 ·cases h; exact ok189
 ·cases h
theorem follows : Tryz.prog.follows .mixedOrders = true := by kernel_rfl
theorem hb0 (f : Nat) (h2 : 2 < f) (hf : f < 131) : Xd Tryz.prog f = True := Fs (n := 131) (by kernel_rfl) f h2 hf
theorem hbT : Xd Tryz.prog 3 ∧ Xd Tryz.prog 4 ∧ Xd Tryz.prog 5 ∧ Xd Tryz.prog 6 ∧ Xd Tryz.prog 7 ∧ Xd Tryz.prog 8 ∧ Xd Tryz.prog 9 ∧ Xd Tryz.prog 10 ∧ Xd Tryz.prog 11 ∧ Xd Tryz.prog 12 ∧ Xd Tryz.prog 13 ∧ Xd Tryz.prog 14 ∧ Xd Tryz.prog 15 ∧ Xd Tryz.prog 16 ∧ Xd Tryz.prog 17 ∧ Xd Tryz.prog 18 ∧ Xd Tryz.prog 19 ∧ Xd Tryz.prog 20 ∧ Xd Tryz.prog 21 ∧ Xd Tryz.prog 22 ∧ Xd Tryz.prog 23 ∧ Xd Tryz.prog 24 ∧ Xd Tryz.prog 25 ∧ Xd Tryz.prog 26 ∧ Xd Tryz.prog 27 ∧ Xd Tryz.prog 28 ∧ Xd Tryz.prog 29 ∧ Xd Tryz.prog 30 ∧ Xd Tryz.prog 31 ∧ Xd Tryz.prog 32 ∧ Xd Tryz.prog 33 ∧ Xd Tryz.prog 34 ∧ Xd Tryz.prog 35 ∧ Xd Tryz.prog 36 ∧ Xd Tryz.prog 37 ∧ Xd Tryz.prog 38 ∧ Xd Tryz.prog 39 ∧ Xd Tryz.prog 40 ∧ Xd Tryz.prog 41 ∧ Xd Tryz.prog 42 ∧ Xd Tryz.prog 43 ∧ Xd Tryz.prog 44 ∧ Xd Tryz.prog 45 ∧ Xd Tryz.prog 46 ∧ Xd Tryz.prog 47 ∧ Xd Tryz.prog 48 ∧ Xd Tryz.prog 49 ∧ Xd Tryz.prog 50 ∧ Xd Tryz.prog 51 ∧ Xd Tryz.prog 52 ∧ Xd Tryz.prog 53 ∧ Xd Tryz.prog 54 ∧ Xd Tryz.prog 55 ∧ Xd Tryz.prog 56 ∧ Xd Tryz.prog 57 ∧ Xd Tryz.prog 58 ∧ Xd Tryz.prog 59 ∧ Xd Tryz.prog 60 ∧ Xd Tryz.prog 61 ∧ Xd Tryz.prog 62 ∧ Xd Tryz.prog 63 ∧ Xd Tryz.prog 64 ∧ Xd Tryz.prog 65 ∧ Xd Tryz.prog 66 ∧ Xd Tryz.prog 67 ∧ Xd Tryz.prog 68 ∧ Xd Tryz.prog 69 ∧ Xd Tryz.prog 70 ∧ Xd Tryz.prog 71 ∧ Xd Tryz.prog 72 ∧ Xd Tryz.prog 73 ∧ Xd Tryz.prog 74 ∧ Xd Tryz.prog 75 ∧ Xd Tryz.prog 76 ∧ Xd Tryz.prog 77 ∧ Xd Tryz.prog 78 ∧ Xd Tryz.prog 79 ∧ Xd Tryz.prog 80 ∧ Xd Tryz.prog 81 ∧ Xd Tryz.prog 82 ∧ Xd Tryz.prog 83 ∧ Xd Tryz.prog 84 ∧ Xd Tryz.prog 85 ∧ Xd Tryz.prog 86 ∧ Xd Tryz.prog 87 ∧ Xd Tryz.prog 88 ∧ Xd Tryz.prog 89 ∧ Xd Tryz.prog 90 ∧ Xd Tryz.prog 91 ∧ Xd Tryz.prog 92 ∧ Xd Tryz.prog 93 ∧ Xd Tryz.prog 94 ∧ Xd Tryz.prog 95 ∧ Xd Tryz.prog 96 ∧ Xd Tryz.prog 97 ∧ Xd Tryz.prog 98 ∧ Xd Tryz.prog 99 ∧ Xd Tryz.prog 100 ∧ Xd Tryz.prog 101 ∧ Xd Tryz.prog 102 ∧ Xd Tryz.prog 103 ∧ Xd Tryz.prog 104 ∧ Xd Tryz.prog 105 ∧ Xd Tryz.prog 106 ∧ Xd Tryz.prog 107 ∧ Xd Tryz.prog 108 ∧ Xd Tryz.prog 109 ∧ Xd Tryz.prog 110 ∧ Xd Tryz.prog 111 ∧ Xd Tryz.prog 112 ∧ Xd Tryz.prog 113 ∧ Xd Tryz.prog 114 ∧ Xd Tryz.prog 115 ∧ Xd Tryz.prog 116 ∧ Xd Tryz.prog 117 ∧ Xd Tryz.prog 118 ∧ Xd Tryz.prog 119 ∧ Xd Tryz.prog 120 ∧ Xd Tryz.prog 121 ∧ Xd Tryz.prog 122 ∧ Xd Tryz.prog 123 ∧ Xd Tryz.prog 124 ∧ Xd Tryz.prog 125 ∧ Xd Tryz.prog 126 ∧ Xd Tryz.prog 127 ∧ Xd Tryz.prog 128 ∧ Xd Tryz.prog 129 ∧ Xd Tryz.prog 130 :=
 ⟨of_eq_true (hb0 3 (by decide) (by decide)), of_eq_true (hb0 4 (by decide) (by decide)), of_eq_true (hb0 5 (by decide) (by decide)), of_eq_true (hb0 6 (by decide) (by decide)), of_eq_true (hb0 7 (by decide) (by decide)), of_eq_true (hb0 8 (by decide) (by decide)), of_eq_true (hb0 9 (by decide) (by decide)), of_eq_true (hb0 10 (by decide) (by decide)), of_eq_true (hb0 11 (by decide) (by decide)), of_eq_true (hb0 12 (by decide) (by decide)), of_eq_true (hb0 13 (by decide) (by decide)), of_eq_true (hb0 14 (by decide) (by decide)), of_eq_true (hb0 15 (by decide) (by decide)), of_eq_true (hb0 16 (by decide) (by decide)), of_eq_true (hb0 17 (by decide) (by decide)), of_eq_true (hb0 18 (by decide) (by decide)), of_eq_true (hb0 19 (by decide) (by decide)), of_eq_true (hb0 20 (by decide) (by decide)), of_eq_true (hb0 21 (by decide) (by decide)), of_eq_true (hb0 22 (by decide) (by decide)), of_eq_true (hb0 23 (by decide) (by decide)), of_eq_true (hb0 24 (by decide) (by decide)), of_eq_true (hb0 25 (by decide) (by decide)), of_eq_true (hb0 26 (by decide) (by decide)), of_eq_true (hb0 27 (by decide) (by decide)), of_eq_true (hb0 28 (by decide) (by decide)), of_eq_true (hb0 29 (by decide) (by decide)), of_eq_true (hb0 30 (by decide) (by decide)), of_eq_true (hb0 31 (by decide) (by decide)), of_eq_true (hb0 32 (by decide) (by decide)), of_eq_true (hb0 33 (by decide) (by decide)), of_eq_true (hb0 34 (by decide) (by decide)), of_eq_true (hb0 35 (by decide) (by decide)), of_eq_true (hb0 36 (by decide) (by decide)), of_eq_true (hb0 37 (by decide) (by decide)), of_eq_true (hb0 38 (by decide) (by decide)), of_eq_true (hb0 39 (by decide) (by decide)), of_eq_true (hb0 40 (by decide) (by decide)), of_eq_true (hb0 41 (by decide) (by decide)), of_eq_true (hb0 42 (by decide) (by decide)), of_eq_true (hb0 43 (by decide) (by decide)), of_eq_true (hb0 44 (by decide) (by decide)), of_eq_true (hb0 45 (by decide) (by decide)), of_eq_true (hb0 46 (by decide) (by decide)), of_eq_true (hb0 47 (by decide) (by decide)), of_eq_true (hb0 48 (by decide) (by decide)), of_eq_true (hb0 49 (by decide) (by decide)), of_eq_true (hb0 50 (by decide) (by decide)), of_eq_true (hb0 51 (by decide) (by decide)), of_eq_true (hb0 52 (by decide) (by decide)), of_eq_true (hb0 53 (by decide) (by decide)), of_eq_true (hb0 54 (by decide) (by decide)), of_eq_true (hb0 55 (by decide) (by decide)), of_eq_true (hb0 56 (by decide) (by decide)), of_eq_true (hb0 57 (by decide) (by decide)), of_eq_true (hb0 58 (by decide) (by decide)), of_eq_true (hb0 59 (by decide) (by decide)), of_eq_true (hb0 60 (by decide) (by decide)), of_eq_true (hb0 61 (by decide) (by decide)), of_eq_true (hb0 62 (by decide) (by decide)), of_eq_true (hb0 63 (by decide) (by decide)), of_eq_true (hb0 64 (by decide) (by decide)), of_eq_true (hb0 65 (by decide) (by decide)), of_eq_true (hb0 66 (by decide) (by decide)), of_eq_true (hb0 67 (by decide) (by decide)), of_eq_true (hb0 68 (by decide) (by decide)), of_eq_true (hb0 69 (by decide) (by decide)), of_eq_true (hb0 70 (by decide) (by decide)), of_eq_true (hb0 71 (by decide) (by decide)), of_eq_true (hb0 72 (by decide) (by decide)), of_eq_true (hb0 73 (by decide) (by decide)), of_eq_true (hb0 74 (by decide) (by decide)), of_eq_true (hb0 75 (by decide) (by decide)), of_eq_true (hb0 76 (by decide) (by decide)), of_eq_true (hb0 77 (by decide) (by decide)), of_eq_true (hb0 78 (by decide) (by decide)), of_eq_true (hb0 79 (by decide) (by decide)), of_eq_true (hb0 80 (by decide) (by decide)), of_eq_true (hb0 81 (by decide) (by decide)), of_eq_true (hb0 82 (by decide) (by decide)), of_eq_true (hb0 83 (by decide) (by decide)), of_eq_true (hb0 84 (by decide) (by decide)), of_eq_true (hb0 85 (by decide) (by decide)), of_eq_true (hb0 86 (by decide) (by decide)), of_eq_true (hb0 87 (by decide) (by decide)), of_eq_true (hb0 88 (by decide) (by decide)), of_eq_true (hb0 89 (by decide) (by decide)), of_eq_true (hb0 90 (by decide) (by decide)), of_eq_true (hb0 91 (by decide) (by decide)), of_eq_true (hb0 92 (by decide) (by decide)), of_eq_true (hb0 93 (by decide) (by decide)), of_eq_true (hb0 94 (by decide) (by decide)), of_eq_true (hb0 95 (by decide) (by decide)), of_eq_true (hb0 96 (by decide) (by decide)), of_eq_true (hb0 97 (by decide) (by decide)), of_eq_true (hb0 98 (by decide) (by decide)), of_eq_true (hb0 99 (by decide) (by decide)), of_eq_true (hb0 100 (by decide) (by decide)), of_eq_true (hb0 101 (by decide) (by decide)), of_eq_true (hb0 102 (by decide) (by decide)), of_eq_true (hb0 103 (by decide) (by decide)), of_eq_true (hb0 104 (by decide) (by decide)), of_eq_true (hb0 105 (by decide) (by decide)), of_eq_true (hb0 106 (by decide) (by decide)), of_eq_true (hb0 107 (by decide) (by decide)), of_eq_true (hb0 108 (by decide) (by decide)), of_eq_true (hb0 109 (by decide) (by decide)), of_eq_true (hb0 110 (by decide) (by decide)), of_eq_true (hb0 111 (by decide) (by decide)), of_eq_true (hb0 112 (by decide) (by decide)), of_eq_true (hb0 113 (by decide) (by decide)), of_eq_true (hb0 114 (by decide) (by decide)), of_eq_true (hb0 115 (by decide) (by decide)), of_eq_true (hb0 116 (by decide) (by decide)), of_eq_true (hb0 117 (by decide) (by decide)), of_eq_true (hb0 118 (by decide) (by decide)), of_eq_true (hb0 119 (by decide) (by decide)), of_eq_true (hb0 120 (by decide) (by decide)), of_eq_true (hb0 121 (by decide) (by decide)), of_eq_true (hb0 122 (by decide) (by decide)), of_eq_true (hb0 123 (by decide) (by decide)), of_eq_true (hb0 124 (by decide) (by decide)), of_eq_true (hb0 125 (by decide) (by decide)), of_eq_true (hb0 126 (by decide) (by decide)), of_eq_true (hb0 127 (by decide) (by decide)), of_eq_true (hb0 128 (by decide) (by decide)), of_eq_true (hb0 129 (by decide) (by decide)), of_eq_true (hb0 130 (by decide) (by decide))⟩
end Go.Proofs.YtgdhnngpfieloaaGreat.Tab
