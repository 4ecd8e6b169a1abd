/-
 The table of the types of this seat, for the value-semantics layer. Written by a program (mktab.py).
-/
import Derived.Test.YtgdhnngpfieloaaZVsBits
import Derived.Test.YtgdhnngpfieloaaRows
import Derived.KernelRfl
namespace Go.Proofs.Ytgdhnngpfieloaa.Tab
open Go Go.VS
theorem Zd {P : Program} {t : TypeId} {ti : TI} {z : Value} (hu : P.underlying t = some ti.desc) (hi : (P.info? t).map (fun i => (i.size, i.bytes, i.zero)) = some (ti.size, ti.bytes, some z))
  (hz : z.cells.toList = ti.zero) (hl : ti.zero.all X0m = true) (hn : ti.zero.length = ti.size) (ha : ti.agg = X24 ti.desc)
  (hp : ∀ fs, ti.desc = .struct fs → ∀ w, (fs.mapM fun f => (do pure (f.offset, ← sizeOf f.type) : Sem (Nat × Nat))).run P w = .ok ti.pl.toArray w) : TIok P t ti := by
 refine ⟨hu, ?_, hl, hn, ha, hp⟩
 cases h : P.info? t with
 | none => rw [h] at hi; cases hi
 | some i =>
  rw [h] at hi
  simp only [Option.map_some, Option.some.injEq, Prod.mk.injEq] at hi
  exact ⟨i, z, rfl, hi.1, hi.2.1, hi.2.2, hz⟩
abbrev ti1 : TI := { desc := .func #[] #[] false, size := 1, bytes := 8, zero := [.nilFunc], agg := false }
set_option maxRecDepth 100000 in
theorem ok1 : TIok Try.prog 1 ti1 := Zd (z := (.nilFunc)) (by kernel_rfl) (by kernel_rfl) rfl (by decide) rfl rfl (by intro fs h; cases h)
abbrev ti2 : TI := { desc := .int .i64, size := 1, bytes := 8, zero := [.int .i64 0], agg := false }
set_option maxRecDepth 100000 in
theorem ok2 : TIok Try.prog 2 ti2 := Zd (z := (.int .i64 0)) (by kernel_rfl) (by kernel_rfl) rfl (by decide) rfl rfl (by intro fs h; cases h)
abbrev ti3 : TI := { desc := .int .i64, size := 1, bytes := 8, zero := [.int .i64 0], agg := false }
set_option maxRecDepth 100000 in
theorem ok3 : TIok Try.prog 3 ti3 := Zd (z := (.int .i64 0)) (by kernel_rfl) (by kernel_rfl) rfl (by decide) rfl rfl (by intro fs h; cases h)
abbrev ti4 : TI := { desc := .bool, size := 1, bytes := 1, zero := [.bool false], agg := false }
set_option maxRecDepth 100000 in
theorem ok4 : TIok Try.prog 4 ti4 := Zd (z := (.bool false)) (by kernel_rfl) (by kernel_rfl) rfl (by decide) rfl rfl (by intro fs h; cases h)
abbrev ti5 : TI := { desc := .int .u8, size := 1, bytes := 1, zero := [.int .u8 0], agg := false }
set_option maxRecDepth 100000 in
theorem ok5 : TIok Try.prog 5 ti5 := Zd (z := (.int .u8 0)) (by kernel_rfl) (by kernel_rfl) rfl (by decide) rfl rfl (by intro fs h; cases h)
abbrev ti9 : TI := { desc := .string, size := 1, bytes := 16, zero := [.string ByteArray.empty], agg := false }
set_option maxRecDepth 100000 in
theorem ok9 : TIok Try.prog 9 ti9 := Zd (z := (.string ByteArray.empty)) (by kernel_rfl) (by kernel_rfl) rfl (by decide) rfl rfl (by intro fs h; cases h)
abbrev ti20 : TI := { desc := .interface #[], size := 1, bytes := 16, zero := [.nilIface], agg := false }
set_option maxRecDepth 100000 in
theorem ok20 : TIok Try.prog 20 ti20 := Zd (z := (.nilIface)) (by kernel_rfl) (by kernel_rfl) rfl (by decide) rfl rfl (by intro fs h; cases h)
abbrev ti22 : TI := { desc := .slice 59, size := 1, bytes := 24, zero := [.slice none 0 0], agg := false }
set_option maxRecDepth 100000 in
theorem ok22 : TIok Try.prog 22 ti22 := Zd (z := (.slice none 0 0)) (by kernel_rfl) (by kernel_rfl) rfl (by decide) rfl rfl (by intro fs h; cases h)
abbrev ti23 : TI := { desc := .slice 77, size := 1, bytes := 24, zero := [.slice none 0 0], agg := false }
set_option maxRecDepth 100000 in
theorem ok23 : TIok Try.prog 23 ti23 := Zd (z := (.slice none 0 0)) (by kernel_rfl) (by kernel_rfl) rfl (by decide) rfl rfl (by intro fs h; cases h)
abbrev ti24 : TI := { desc := .slice 81, size := 1, bytes := 24, zero := [.slice none 0 0], agg := false }
set_option maxRecDepth 100000 in
theorem ok24 : TIok Try.prog 24 ti24 := Zd (z := (.slice none 0 0)) (by kernel_rfl) (by kernel_rfl) rfl (by decide) rfl rfl (by intro fs h; cases h)
abbrev ti25 : TI := { desc := .slice 55, size := 1, bytes := 24, zero := [.slice none 0 0], agg := false }
set_option maxRecDepth 100000 in
theorem ok25 : TIok Try.prog 25 ti25 := Zd (z := (.slice none 0 0)) (by kernel_rfl) (by kernel_rfl) rfl (by decide) rfl rfl (by intro fs h; cases h)
abbrev ti26 : TI := { desc := .struct #[⟨ "Version", 3, 0, false, "", "", 0⟩, ⟨ "Parent", 3, 1, false, "", "", 8⟩, ⟨ "Sections", 22, 2, false, "", "", 16⟩, ⟨ "Points", 23, 3, false, "", "", 40⟩, ⟨ "Signals", 24, 4, false, "", "", 64⟩, ⟨ "Routes", 25, 5, false, "", "", 88⟩], size := 6, bytes := 112, zero := [.int .i64 0, .int .i64 0, .slice none 0 0, .slice none 0 0, .slice none 0 0, .slice none 0 0], agg := true, pl := [(0, 1), (1, 1), (2, 1), (3, 1), (4, 1), (5, 1)] }
set_option maxRecDepth 100000 in
theorem ok26 : TIok Try.prog 26 ti26 := Zd (z := (.agg ([.int .i64 0, .int .i64 0, .slice none 0 0, .slice none 0 0, .slice none 0 0, .slice none 0 0] : List Value).toArray)) (by kernel_rfl) (by kernel_rfl) rfl (by decide) rfl rfl (by intro fs h; injection h with h; subst h; intro w; kernel_rfl)
abbrev ti27 : TI := { desc := .struct #[⟨ "Version", 3, 0, false, "", "", 0⟩, ⟨ "Parent", 3, 1, false, "", "", 8⟩, ⟨ "Sections", 22, 2, false, "", "", 16⟩, ⟨ "Points", 23, 3, false, "", "", 40⟩, ⟨ "Signals", 24, 4, false, "", "", 64⟩, ⟨ "Routes", 25, 5, false, "", "", 88⟩], size := 6, bytes := 112, zero := [.int .i64 0, .int .i64 0, .slice none 0 0, .slice none 0 0, .slice none 0 0, .slice none 0 0], agg := true, pl := [(0, 1), (1, 1), (2, 1), (3, 1), (4, 1), (5, 1)] }
set_option maxRecDepth 100000 in
theorem ok27 : TIok Try.prog 27 ti27 := Zd (z := (.agg ([.int .i64 0, .int .i64 0, .slice none 0 0, .slice none 0 0, .slice none 0 0, .slice none 0 0] : List Value).toArray)) (by kernel_rfl) (by kernel_rfl) rfl (by decide) rfl rfl (by intro fs h; injection h with h; subst h; intro w; kernel_rfl)
abbrev ti28 : TI := { desc := .slice 5, size := 1, bytes := 24, zero := [.slice none 0 0], agg := false }
set_option maxRecDepth 100000 in
theorem ok28 : TIok Try.prog 28 ti28 := Zd (z := (.slice none 0 0)) (by kernel_rfl) (by kernel_rfl) rfl (by decide) rfl rfl (by intro fs h; cases h)
abbrev ti31 : TI := { desc := .int .i64, size := 1, bytes := 8, zero := [.int .i64 0], agg := false }
set_option maxRecDepth 100000 in
theorem ok31 : TIok Try.prog 31 ti31 := Zd (z := (.int .i64 0)) (by kernel_rfl) (by kernel_rfl) rfl (by decide) rfl rfl (by intro fs h; cases h)
abbrev ti47 : TI := { desc := .array 32 5, size := 32, bytes := 32, zero := List.replicate 32 (.int .u8 0), agg := true }
set_option maxRecDepth 100000 in
theorem ok47 : TIok Try.prog 47 ti47 := Zd (z := (.agg (List.replicate 32 (.int .u8 0) : List Value).toArray)) (by kernel_rfl) (by kernel_rfl) rfl (by decide) rfl rfl (by intro fs h; cases h)
abbrev ti52 : TI := { desc := .slice 3, size := 1, bytes := 24, zero := [.slice none 0 0], agg := false }
set_option maxRecDepth 100000 in
theorem ok52 : TIok Try.prog 52 ti52 := Zd (z := (.slice none 0 0)) (by kernel_rfl) (by kernel_rfl) rfl (by decide) rfl rfl (by intro fs h; cases h)
abbrev ti53 : TI := { desc := .slice 87, size := 1, bytes := 24, zero := [.slice none 0 0], agg := false }
set_option maxRecDepth 100000 in
theorem ok53 : TIok Try.prog 53 ti53 := Zd (z := (.slice none 0 0)) (by kernel_rfl) (by kernel_rfl) rfl (by decide) rfl rfl (by intro fs h; cases h)
abbrev ti54 : TI := { desc := .struct #[⟨ "Id", 3, 0, false, "", "", 0⟩, ⟨ "Entry", 3, 1, false, "", "", 8⟩, ⟨ "Exit", 3, 2, false, "", "", 16⟩, ⟨ "Path", 52, 3, false, "", "", 24⟩, ⟨ "Over", 52, 4, false, "", "", 48⟩, ⟨ "Flanks", 53, 5, false, "", "", 72⟩, ⟨ "Timer", 3, 6, false, "", "", 96⟩], size := 7, bytes := 104, zero := [.int .i64 0, .int .i64 0, .int .i64 0, .slice none 0 0, .slice none 0 0, .slice none 0 0, .int .i64 0], agg := true, pl := [(0, 1), (1, 1), (2, 1), (3, 1), (4, 1), (5, 1), (6, 1)] }
set_option maxRecDepth 100000 in
theorem ok54 : TIok Try.prog 54 ti54 := Zd (z := (.agg ([.int .i64 0, .int .i64 0, .int .i64 0, .slice none 0 0, .slice none 0 0, .slice none 0 0, .int .i64 0] : List Value).toArray)) (by kernel_rfl) (by kernel_rfl) rfl (by decide) rfl rfl (by intro fs h; injection h with h; subst h; intro w; kernel_rfl)
abbrev ti55 : TI := { desc := .struct #[⟨ "Id", 3, 0, false, "", "", 0⟩, ⟨ "Entry", 3, 1, false, "", "", 8⟩, ⟨ "Exit", 3, 2, false, "", "", 16⟩, ⟨ "Path", 52, 3, false, "", "", 24⟩, ⟨ "Over", 52, 4, false, "", "", 48⟩, ⟨ "Flanks", 53, 5, false, "", "", 72⟩, ⟨ "Timer", 3, 6, false, "", "", 96⟩], size := 7, bytes := 104, zero := [.int .i64 0, .int .i64 0, .int .i64 0, .slice none 0 0, .slice none 0 0, .slice none 0 0, .int .i64 0], agg := true, pl := [(0, 1), (1, 1), (2, 1), (3, 1), (4, 1), (5, 1), (6, 1)] }
set_option maxRecDepth 100000 in
theorem ok55 : TIok Try.prog 55 ti55 := Zd (z := (.agg ([.int .i64 0, .int .i64 0, .int .i64 0, .slice none 0 0, .slice none 0 0, .slice none 0 0, .int .i64 0] : List Value).toArray)) (by kernel_rfl) (by kernel_rfl) rfl (by decide) rfl rfl (by intro fs h; injection h with h; subst h; intro w; kernel_rfl)
abbrev ti57 : TI := { desc := .slice 71, size := 1, bytes := 24, zero := [.slice none 0 0], agg := false }
set_option maxRecDepth 100000 in
theorem ok57 : TIok Try.prog 57 ti57 := Zd (z := (.slice none 0 0)) (by kernel_rfl) (by kernel_rfl) rfl (by decide) rfl rfl (by intro fs h; cases h)
abbrev ti58 : TI := { desc := .struct #[⟨ "Id", 3, 0, false, "", "", 0⟩, ⟨ "Point", 3, 1, false, "", "", 8⟩, ⟨ "Ends", 57, 2, false, "", "", 16⟩], size := 3, bytes := 40, zero := [.int .i64 0, .int .i64 0, .slice none 0 0], agg := true, pl := [(0, 1), (1, 1), (2, 1)] }
set_option maxRecDepth 100000 in
theorem ok58 : TIok Try.prog 58 ti58 := Zd (z := (.agg ([.int .i64 0, .int .i64 0, .slice none 0 0] : List Value).toArray)) (by kernel_rfl) (by kernel_rfl) rfl (by decide) rfl rfl (by intro fs h; injection h with h; subst h; intro w; kernel_rfl)
abbrev ti59 : TI := { desc := .struct #[⟨ "Id", 3, 0, false, "", "", 0⟩, ⟨ "Point", 3, 1, false, "", "", 8⟩, ⟨ "Ends", 57, 2, false, "", "", 16⟩], size := 3, bytes := 40, zero := [.int .i64 0, .int .i64 0, .slice none 0 0], agg := true, pl := [(0, 1), (1, 1), (2, 1)] }
set_option maxRecDepth 100000 in
theorem ok59 : TIok Try.prog 59 ti59 := Zd (z := (.agg ([.int .i64 0, .int .i64 0, .slice none 0 0] : List Value).toArray)) (by kernel_rfl) (by kernel_rfl) rfl (by decide) rfl rfl (by intro fs h; injection h with h; subst h; intro w; kernel_rfl)
abbrev ti62 : TI := { desc := .slice 5, size := 1, bytes := 24, zero := [.slice none 0 0], agg := false }
set_option maxRecDepth 100000 in
theorem ok62 : TIok Try.prog 62 ti62 := Zd (z := (.slice none 0 0)) (by kernel_rfl) (by kernel_rfl) rfl (by decide) rfl rfl (by intro fs h; cases h)
abbrev ti64 : TI := { desc := .func #[27] #[28] false, size := 1, bytes := 8, zero := [.nilFunc], agg := false }
set_option maxRecDepth 100000 in
theorem ok64 : TIok Try.prog 64 ti64 := Zd (z := (.nilFunc)) (by kernel_rfl) (by kernel_rfl) rfl (by decide) rfl rfl (by intro fs h; cases h)
abbrev ti67 : TI := { desc := .func #[] #[3] false, size := 1, bytes := 8, zero := [.nilFunc], agg := false }
set_option maxRecDepth 100000 in
theorem ok67 : TIok Try.prog 67 ti67 := Zd (z := (.nilFunc)) (by kernel_rfl) (by kernel_rfl) rfl (by decide) rfl rfl (by intro fs h; cases h)
abbrev ti68 : TI := { desc := .struct #[⟨ "next", 67, 0, false, "", "leverframe/pack", 0⟩], size := 1, bytes := 8, zero := [.nilFunc], agg := true, pl := [(0, 1)] }
set_option maxRecDepth 100000 in
theorem ok68 : TIok Try.prog 68 ti68 := Zd (z := (.agg ([.nilFunc] : List Value).toArray)) (by kernel_rfl) (by kernel_rfl) rfl (by decide) rfl rfl (by intro fs h; injection h with h; subst h; intro w; kernel_rfl)
abbrev ti69 : TI := { desc := .struct #[⟨ "next", 67, 0, false, "", "leverframe/pack", 0⟩], size := 1, bytes := 8, zero := [.nilFunc], agg := true, pl := [(0, 1)] }
set_option maxRecDepth 100000 in
theorem ok69 : TIok Try.prog 69 ti69 := Zd (z := (.agg ([.nilFunc] : List Value).toArray)) (by kernel_rfl) (by kernel_rfl) rfl (by decide) rfl rfl (by intro fs h; injection h with h; subst h; intro w; kernel_rfl)
abbrev ti70 : TI := { desc := .struct #[⟨ "To", 3, 0, false, "", "", 0⟩, ⟨ "End", 3, 1, false, "", "", 8⟩], size := 2, bytes := 16, zero := [.int .i64 0, .int .i64 0], agg := true, pl := [(0, 1), (1, 1)] }
set_option maxRecDepth 100000 in
theorem ok70 : TIok Try.prog 70 ti70 := Zd (z := (.agg ([.int .i64 0, .int .i64 0] : List Value).toArray)) (by kernel_rfl) (by kernel_rfl) rfl (by decide) rfl rfl (by intro fs h; injection h with h; subst h; intro w; kernel_rfl)
abbrev ti71 : TI := { desc := .struct #[⟨ "To", 3, 0, false, "", "", 0⟩, ⟨ "End", 3, 1, false, "", "", 8⟩], size := 2, bytes := 16, zero := [.int .i64 0, .int .i64 0], agg := true, pl := [(0, 1), (1, 1)] }
set_option maxRecDepth 100000 in
theorem ok71 : TIok Try.prog 71 ti71 := Zd (z := (.agg ([.int .i64 0, .int .i64 0] : List Value).toArray)) (by kernel_rfl) (by kernel_rfl) rfl (by decide) rfl rfl (by intro fs h; injection h with h; subst h; intro w; kernel_rfl)
abbrev ti72 : TI := { desc := .func #[] #[71] false, size := 1, bytes := 8, zero := [.nilFunc], agg := false }
set_option maxRecDepth 100000 in
theorem ok72 : TIok Try.prog 72 ti72 := Zd (z := (.nilFunc)) (by kernel_rfl) (by kernel_rfl) rfl (by decide) rfl rfl (by intro fs h; cases h)
abbrev ti74 : TI := { desc := .func #[] #[59] false, size := 1, bytes := 8, zero := [.nilFunc], agg := false }
set_option maxRecDepth 100000 in
theorem ok74 : TIok Try.prog 74 ti74 := Zd (z := (.nilFunc)) (by kernel_rfl) (by kernel_rfl) rfl (by decide) rfl rfl (by intro fs h; cases h)
abbrev ti76 : TI := { desc := .struct #[⟨ "Id", 3, 0, false, "", "", 0⟩, ⟨ "Section", 3, 1, false, "", "", 8⟩], size := 2, bytes := 16, zero := [.int .i64 0, .int .i64 0], agg := true, pl := [(0, 1), (1, 1)] }
set_option maxRecDepth 100000 in
theorem ok76 : TIok Try.prog 76 ti76 := Zd (z := (.agg ([.int .i64 0, .int .i64 0] : List Value).toArray)) (by kernel_rfl) (by kernel_rfl) rfl (by decide) rfl rfl (by intro fs h; injection h with h; subst h; intro w; kernel_rfl)
abbrev ti77 : TI := { desc := .struct #[⟨ "Id", 3, 0, false, "", "", 0⟩, ⟨ "Section", 3, 1, false, "", "", 8⟩], size := 2, bytes := 16, zero := [.int .i64 0, .int .i64 0], agg := true, pl := [(0, 1), (1, 1)] }
set_option maxRecDepth 100000 in
theorem ok77 : TIok Try.prog 77 ti77 := Zd (z := (.agg ([.int .i64 0, .int .i64 0] : List Value).toArray)) (by kernel_rfl) (by kernel_rfl) rfl (by decide) rfl rfl (by intro fs h; injection h with h; subst h; intro w; kernel_rfl)
abbrev ti78 : TI := { desc := .func #[] #[77] false, size := 1, bytes := 8, zero := [.nilFunc], agg := false }
set_option maxRecDepth 100000 in
theorem ok78 : TIok Try.prog 78 ti78 := Zd (z := (.nilFunc)) (by kernel_rfl) (by kernel_rfl) rfl (by decide) rfl rfl (by intro fs h; cases h)
abbrev ti80 : TI := { desc := .struct #[⟨ "Id", 3, 0, false, "", "", 0⟩, ⟨ "Section", 3, 1, false, "", "", 8⟩, ⟨ "End", 3, 2, false, "", "", 16⟩], size := 3, bytes := 24, zero := [.int .i64 0, .int .i64 0, .int .i64 0], agg := true, pl := [(0, 1), (1, 1), (2, 1)] }
set_option maxRecDepth 100000 in
theorem ok80 : TIok Try.prog 80 ti80 := Zd (z := (.agg ([.int .i64 0, .int .i64 0, .int .i64 0] : List Value).toArray)) (by kernel_rfl) (by kernel_rfl) rfl (by decide) rfl rfl (by intro fs h; injection h with h; subst h; intro w; kernel_rfl)
abbrev ti81 : TI := { desc := .struct #[⟨ "Id", 3, 0, false, "", "", 0⟩, ⟨ "Section", 3, 1, false, "", "", 8⟩, ⟨ "End", 3, 2, false, "", "", 16⟩], size := 3, bytes := 24, zero := [.int .i64 0, .int .i64 0, .int .i64 0], agg := true, pl := [(0, 1), (1, 1), (2, 1)] }
set_option maxRecDepth 100000 in
theorem ok81 : TIok Try.prog 81 ti81 := Zd (z := (.agg ([.int .i64 0, .int .i64 0, .int .i64 0] : List Value).toArray)) (by kernel_rfl) (by kernel_rfl) rfl (by decide) rfl rfl (by intro fs h; injection h with h; subst h; intro w; kernel_rfl)
abbrev ti82 : TI := { desc := .func #[] #[81] false, size := 1, bytes := 8, zero := [.nilFunc], agg := false }
set_option maxRecDepth 100000 in
theorem ok82 : TIok Try.prog 82 ti82 := Zd (z := (.nilFunc)) (by kernel_rfl) (by kernel_rfl) rfl (by decide) rfl rfl (by intro fs h; cases h)
abbrev ti86 : TI := { desc := .struct #[⟨ "Point", 3, 0, false, "", "", 0⟩, ⟨ "Lie", 3, 1, false, "", "", 8⟩], size := 2, bytes := 16, zero := [.int .i64 0, .int .i64 0], agg := true, pl := [(0, 1), (1, 1)] }
set_option maxRecDepth 100000 in
theorem ok86 : TIok Try.prog 86 ti86 := Zd (z := (.agg ([.int .i64 0, .int .i64 0] : List Value).toArray)) (by kernel_rfl) (by kernel_rfl) rfl (by decide) rfl rfl (by intro fs h; injection h with h; subst h; intro w; kernel_rfl)
abbrev ti87 : TI := { desc := .struct #[⟨ "Point", 3, 0, false, "", "", 0⟩, ⟨ "Lie", 3, 1, false, "", "", 8⟩], size := 2, bytes := 16, zero := [.int .i64 0, .int .i64 0], agg := true, pl := [(0, 1), (1, 1)] }
set_option maxRecDepth 100000 in
theorem ok87 : TIok Try.prog 87 ti87 := Zd (z := (.agg ([.int .i64 0, .int .i64 0] : List Value).toArray)) (by kernel_rfl) (by kernel_rfl) rfl (by decide) rfl rfl (by intro fs h; injection h with h; subst h; intro w; kernel_rfl)
abbrev ti88 : TI := { desc := .func #[] #[87] false, size := 1, bytes := 8, zero := [.nilFunc], agg := false }
set_option maxRecDepth 100000 in
theorem ok88 : TIok Try.prog 88 ti88 := Zd (z := (.nilFunc)) (by kernel_rfl) (by kernel_rfl) rfl (by decide) rfl rfl (by intro fs h; cases h)
abbrev ti89 : TI := { desc := .func #[] #[55] false, size := 1, bytes := 8, zero := [.nilFunc], agg := false }
set_option maxRecDepth 100000 in
theorem ok89 : TIok Try.prog 89 ti89 := Zd (z := (.nilFunc)) (by kernel_rfl) (by kernel_rfl) rfl (by decide) rfl rfl (by intro fs h; cases h)
abbrev ti99 : TI := { desc := .array 100 3, size := 100, bytes := 800, zero := List.replicate 100 (.int .i64 0), agg := true }
set_option maxRecDepth 100000 in
theorem ok99 : TIok Try.prog 99 ti99 := Zd (z := (.agg (List.replicate 100 (.int .i64 0) : List Value).toArray)) (by kernel_rfl) (by kernel_rfl) rfl (by decide) rfl rfl (by intro fs h; cases h)
abbrev ti100 : TI := { desc := .func #[22] #[99] false, size := 1, bytes := 8, zero := [.nilFunc], agg := false }
set_option maxRecDepth 100000 in
theorem ok100 : TIok Try.prog 100 ti100 := Zd (z := (.nilFunc)) (by kernel_rfl) (by kernel_rfl) rfl (by decide) rfl rfl (by intro fs h; cases h)
abbrev ti104 : TI := { desc := .array 64 5, size := 64, bytes := 64, zero := List.replicate 64 (.int .u8 0), agg := true }
set_option maxRecDepth 100000 in
theorem ok104 : TIok Try.prog 104 ti104 := Zd (z := (.agg (List.replicate 64 (.int .u8 0) : List Value).toArray)) (by kernel_rfl) (by kernel_rfl) rfl (by decide) rfl rfl (by intro fs h; cases h)
abbrev ti107 : TI := { desc := .func #[5, 28] #[47] false, size := 1, bytes := 8, zero := [.nilFunc], agg := false }
set_option maxRecDepth 100000 in
theorem ok107 : TIok Try.prog 107 ti107 := Zd (z := (.nilFunc)) (by kernel_rfl) (by kernel_rfl) rfl (by decide) rfl rfl (by intro fs h; cases h)
abbrev ti109 : TI := { desc := .func #[3] #[] false, size := 1, bytes := 8, zero := [.nilFunc], agg := false }
set_option maxRecDepth 100000 in
theorem ok109 : TIok Try.prog 109 ti109 := Zd (z := (.nilFunc)) (by kernel_rfl) (by kernel_rfl) rfl (by decide) rfl rfl (by intro fs h; cases h)
abbrev ti111 : TI := { desc := .pointer 62, size := 1, bytes := 8, zero := [.pointer none], agg := false }
set_option maxRecDepth 100000 in
theorem ok111 : TIok Try.prog 111 ti111 := Zd (z := (.pointer none)) (by kernel_rfl) (by kernel_rfl) rfl (by decide) rfl rfl (by intro fs h; cases h)
abbrev ti112 : TI := { desc := .func #[59] #[] false, size := 1, bytes := 8, zero := [.nilFunc], agg := false }
set_option maxRecDepth 100000 in
theorem ok112 : TIok Try.prog 112 ti112 := Zd (z := (.nilFunc)) (by kernel_rfl) (by kernel_rfl) rfl (by decide) rfl rfl (by intro fs h; cases h)
abbrev ti114 : TI := { desc := .func #[77] #[] false, size := 1, bytes := 8, zero := [.nilFunc], agg := false }
set_option maxRecDepth 100000 in
theorem ok114 : TIok Try.prog 114 ti114 := Zd (z := (.nilFunc)) (by kernel_rfl) (by kernel_rfl) rfl (by decide) rfl rfl (by intro fs h; cases h)
abbrev ti116 : TI := { desc := .func #[81] #[] false, size := 1, bytes := 8, zero := [.nilFunc], agg := false }
set_option maxRecDepth 100000 in
theorem ok116 : TIok Try.prog 116 ti116 := Zd (z := (.nilFunc)) (by kernel_rfl) (by kernel_rfl) rfl (by decide) rfl rfl (by intro fs h; cases h)
abbrev ti120 : TI := { desc := .func #[87] #[] false, size := 1, bytes := 8, zero := [.nilFunc], agg := false }
set_option maxRecDepth 100000 in
theorem ok120 : TIok Try.prog 120 ti120 := Zd (z := (.nilFunc)) (by kernel_rfl) (by kernel_rfl) rfl (by decide) rfl rfl (by intro fs h; cases h)
abbrev ti121 : TI := { desc := .func #[55] #[] false, size := 1, bytes := 8, zero := [.nilFunc], agg := false }
set_option maxRecDepth 100000 in
theorem ok121 : TIok Try.prog 121 ti121 := Zd (z := (.nilFunc)) (by kernel_rfl) (by kernel_rfl) rfl (by decide) rfl rfl (by intro fs h; cases h)
abbrev ti130 : TI := { desc := .array 100 4, size := 100, bytes := 100, zero := List.replicate 100 (.bool false), agg := true }
set_option maxRecDepth 100000 in
theorem ok130 : TIok Try.prog 130 ti130 := Zd (z := (.agg (List.replicate 100 (.bool false) : List Value).toArray)) (by kernel_rfl) (by kernel_rfl) rfl (by decide) rfl rfl (by intro fs h; cases h)
abbrev ti137 : TI := { desc := .func #[77] #[4] false, size := 1, bytes := 8, zero := [.nilFunc], agg := false }
set_option maxRecDepth 100000 in
theorem ok137 : TIok Try.prog 137 ti137 := Zd (z := (.nilFunc)) (by kernel_rfl) (by kernel_rfl) rfl (by decide) rfl rfl (by intro fs h; cases h)
abbrev ti139 : TI := { desc := .array 3 4, size := 3, bytes := 3, zero := [.bool false, .bool false, .bool false], agg := true }
set_option maxRecDepth 100000 in
theorem ok139 : TIok Try.prog 139 ti139 := Zd (z := (.agg ([.bool false, .bool false, .bool false] : List Value).toArray)) (by kernel_rfl) (by kernel_rfl) rfl (by decide) rfl rfl (by intro fs h; cases h)
abbrev ti140 : TI := { desc := .array 100 139, size := 300, bytes := 300, zero := List.replicate 300 (.bool false), agg := true }
set_option maxRecDepth 100000 in
theorem ok140 : TIok Try.prog 140 ti140 := Zd (z := (.agg (List.replicate 300 (.bool false) : List Value).toArray)) (by kernel_rfl) (by kernel_rfl) rfl (by decide) rfl rfl (by intro fs h; cases h)
abbrev ti145 : TI := { desc := .slice 52, size := 1, bytes := 24, zero := [.slice none 0 0], agg := false }
set_option maxRecDepth 100000 in
theorem ok145 : TIok Try.prog 145 ti145 := Zd (z := (.slice none 0 0)) (by kernel_rfl) (by kernel_rfl) rfl (by decide) rfl rfl (by intro fs h; cases h)
abbrev ti148 : TI := { desc := .int .u32, size := 1, bytes := 4, zero := [.int .u32 0], agg := false }
set_option maxRecDepth 100000 in
theorem ok148 : TIok Try.prog 148 ti148 := Zd (z := (.int .u32 0)) (by kernel_rfl) (by kernel_rfl) rfl (by decide) rfl rfl (by intro fs h; cases h)
abbrev ti149 : TI := { desc := .array 8 148, size := 8, bytes := 32, zero := [.int .u32 0, .int .u32 0, .int .u32 0, .int .u32 0, .int .u32 0, .int .u32 0, .int .u32 0, .int .u32 0], agg := true }
set_option maxRecDepth 100000 in
theorem ok149 : TIok Try.prog 149 ti149 := Zd (z := (.agg ([.int .u32 0, .int .u32 0, .int .u32 0, .int .u32 0, .int .u32 0, .int .u32 0, .int .u32 0, .int .u32 0] : List Value).toArray)) (by kernel_rfl) (by kernel_rfl) rfl (by decide) rfl rfl (by intro fs h; cases h)
abbrev ti151 : TI := { desc := .func #[175] #[] false, size := 1, bytes := 8, zero := [.nilFunc], agg := false }
set_option maxRecDepth 100000 in
theorem ok151 : TIok Try.prog 151 ti151 := Zd (z := (.nilFunc)) (by kernel_rfl) (by kernel_rfl) rfl (by decide) rfl rfl (by intro fs h; cases h)
abbrev ti152 : TI := { desc := .func #[175] #[] false, size := 1, bytes := 8, zero := [.nilFunc], agg := false }
set_option maxRecDepth 100000 in
theorem ok152 : TIok Try.prog 152 ti152 := Zd (z := (.nilFunc)) (by kernel_rfl) (by kernel_rfl) rfl (by decide) rfl rfl (by intro fs h; cases h)
abbrev ti157 : TI := { desc := .int .u64, size := 1, bytes := 8, zero := [.int .u64 0], agg := false }
set_option maxRecDepth 100000 in
theorem ok157 : TIok Try.prog 157 ti157 := Zd (z := (.int .u64 0)) (by kernel_rfl) (by kernel_rfl) rfl (by decide) rfl rfl (by intro fs h; cases h)
abbrev ti158 : TI := { desc := .slice 28, size := 1, bytes := 24, zero := [.slice none 0 0], agg := false }
set_option maxRecDepth 100000 in
theorem ok158 : TIok Try.prog 158 ti158 := Zd (z := (.slice none 0 0)) (by kernel_rfl) (by kernel_rfl) rfl (by decide) rfl rfl (by intro fs h; cases h)
abbrev ti169 : TI := { desc := .func #[59, 3] #[3] false, size := 1, bytes := 8, zero := [.nilFunc], agg := false }
set_option maxRecDepth 100000 in
theorem ok169 : TIok Try.prog 169 ti169 := Zd (z := (.nilFunc)) (by kernel_rfl) (by kernel_rfl) rfl (by decide) rfl rfl (by intro fs h; cases h)
abbrev ti174 : TI := { desc := .func #[81] #[4] false, size := 1, bytes := 8, zero := [.nilFunc], agg := false }
set_option maxRecDepth 100000 in
theorem ok174 : TIok Try.prog 174 ti174 := Zd (z := (.nilFunc)) (by kernel_rfl) (by kernel_rfl) rfl (by decide) rfl rfl (by intro fs h; cases h)
abbrev ti175 : TI := { desc := .func #[28] #[4] false, size := 1, bytes := 8, zero := [.nilFunc], agg := false }
set_option maxRecDepth 100000 in
theorem ok175 : TIok Try.prog 175 ti175 := Zd (z := (.nilFunc)) (by kernel_rfl) (by kernel_rfl) rfl (by decide) rfl rfl (by intro fs h; cases h)
abbrev ti176 : TI := { desc := .array 64 148, size := 64, bytes := 256, zero := List.replicate 64 (.int .u32 0), agg := true }
set_option maxRecDepth 100000 in
theorem ok176 : TIok Try.prog 176 ti176 := Zd (z := (.agg (List.replicate 64 (.int .u32 0) : List Value).toArray)) (by kernel_rfl) (by kernel_rfl) rfl (by decide) rfl rfl (by intro fs h; cases h)
abbrev ti180 : TI := { desc := .func #[185] #[] false, size := 1, bytes := 8, zero := [.nilFunc], agg := false }
set_option maxRecDepth 100000 in
theorem ok180 : TIok Try.prog 180 ti180 := Zd (z := (.nilFunc)) (by kernel_rfl) (by kernel_rfl) rfl (by decide) rfl rfl (by intro fs h; cases h)
abbrev ti181 : TI := { desc := .func #[185] #[] false, size := 1, bytes := 8, zero := [.nilFunc], agg := false }
set_option maxRecDepth 100000 in
theorem ok181 : TIok Try.prog 181 ti181 := Zd (z := (.nilFunc)) (by kernel_rfl) (by kernel_rfl) rfl (by decide) rfl rfl (by intro fs h; cases h)
abbrev ti183 : TI := { desc := .int .u64, size := 1, bytes := 8, zero := [.int .u64 0], agg := false }
set_option maxRecDepth 100000 in
theorem ok183 : TIok Try.prog 183 ti183 := Zd (z := (.int .u64 0)) (by kernel_rfl) (by kernel_rfl) rfl (by decide) rfl rfl (by intro fs h; cases h)
abbrev ti185 : TI := { desc := .func #[5, 4] #[4] false, size := 1, bytes := 8, zero := [.nilFunc], agg := false }
set_option maxRecDepth 100000 in
theorem ok185 : TIok Try.prog 185 ti185 := Zd (z := (.nilFunc)) (by kernel_rfl) (by kernel_rfl) rfl (by decide) rfl rfl (by intro fs h; cases h)
def tab : TypeId → Option TI := fun t =>
 match t with
 | 1 => some ti1
 | 2 => some ti2
 | 3 => some ti3
 | 4 => some ti4
 | 5 => some ti5
 | 9 => some ti9
 | 20 => some ti20
 | 22 => some ti22
 | 23 => some ti23
 | 24 => some ti24
 | 25 => some ti25
 | 26 => some ti26
 | 27 => some ti27
 | 28 => some ti28
 | 31 => some ti31
 | 47 => some ti47
 | 52 => some ti52
 | 53 => some ti53
 | 54 => some ti54
 | 55 => some ti55
 | 57 => some ti57
 | 58 => some ti58
 | 59 => some ti59
 | 62 => some ti62
 | 64 => some ti64
 | 67 => some ti67
 | 68 => some ti68
 | 69 => some ti69
 | 70 => some ti70
 | 71 => some ti71
 | 72 => some ti72
 | 74 => some ti74
 | 76 => some ti76
 | 77 => some ti77
 | 78 => some ti78
 | 80 => some ti80
 | 81 => some ti81
 | 82 => some ti82
 | 86 => some ti86
 | 87 => some ti87
 | 88 => some ti88
 | 89 => some ti89
 | 99 => some ti99
 | 100 => some ti100
 | 104 => some ti104
 | 107 => some ti107
 | 109 => some ti109
 | 111 => some ti111
 | 112 => some ti112
 | 114 => some ti114
 | 116 => some ti116
 | 120 => some ti120
 | 121 => some ti121
 | 130 => some ti130
 | 137 => some ti137
 | 139 => some ti139
 | 140 => some ti140
 | 145 => some ti145
 | 148 => some ti148
 | 149 => some ti149
 | 151 => some ti151
 | 152 => some ti152
 | 157 => some ti157
 | 158 => some ti158
 | 169 => some ti169
 | 174 => some ti174
 | 175 => some ti175
 | 176 => some ti176
 | 180 => some ti180
 | 181 => some ti181
 | 183 => some ti183
 | 185 => some ti185
 | _ => none
theorem Xj : Qw Try.prog tab := by
 intro t ti h
 unfold tab at h
 split at h
 ·cases h; exact ok1
 ·cases h; exact ok2
 ·cases h; exact ok3
 ·cases h; exact ok4
 ·cases h; exact ok5
 ·cases h; exact ok9
 ·cases h; exact ok20
 ·cases h; exact ok22
 ·cases h; exact ok23
 ·cases h; exact ok24
 ·cases h; exact ok25
 ·cases h; exact ok26
 ·cases h; exact ok27
 ·cases h; exact ok28
 ·cases h; exact ok31
 ·cases h; exact ok47
 ·cases h; exact ok52
 ·cases h; exact ok53
 ·cases h; exact ok54
 ·cases h; exact ok55
 ·cases h; exact ok57
 ·cases h; exact ok58
 ·cases h; exact ok59
 ·cases h; exact ok62
 ·cases h; exact ok64
 ·cases h; exact ok67
 ·cases h; exact ok68
 ·cases h; exact ok69
 ·cases h; exact ok70
 ·cases h; exact ok71
 ·cases h; exact ok72
 ·cases h; exact ok74
 ·cases h; exact ok76
 ·cases h; exact ok77
 ·cases h; exact ok78
 ·cases h; exact ok80
 ·cases h; exact ok81
 ·cases h; exact ok82
 ·cases h; exact ok86
 ·cases h; exact ok87
 ·cases h; exact ok88
 ·cases h; exact ok89
 ·cases h; exact ok99
 ·cases h; exact ok100
 ·cases h; exact ok104
 ·cases h; exact ok107
 ·cases h; exact ok109
 ·cases h; exact ok111
 ·cases h; exact ok112
 ·cases h; exact ok114
 ·cases h; exact ok116
 ·cases h; exact ok120
 ·cases h; exact ok121
 ·cases h; exact ok130
 ·cases h; exact ok137
 ·cases h; exact ok139
 ·cases h; exact ok140
 ·cases h; exact ok145
 ·cases h; exact ok148
 ·cases h; exact ok149
 ·cases h; exact ok151
 ·cases h; exact ok152
 ·cases h; exact ok157
 ·cases h; exact ok158
 ·cases h; exact ok169
 ·cases h; exact ok174
 ·cases h; exact ok175
 ·cases h; exact ok176
 ·cases h; exact ok180
 ·cases h; exact ok181
 ·cases h; exact ok183
 ·cases h; exact ok185
 ·cases h
theorem follows : Try.prog.follows .mixedOrders = true := by kernel_rfl
theorem hb0 (f : Nat) (h2 : 2 < f) (hf : f < 123) : Xd Try.prog f = True := Fs (n := 123) (by kernel_rfl) f h2 hf
theorem hbT : Xd Try.prog 3 ∧ Xd Try.prog 4 ∧ Xd Try.prog 5 ∧ Xd Try.prog 6 ∧ Xd Try.prog 7 ∧ Xd Try.prog 8 ∧ Xd Try.prog 9 ∧ Xd Try.prog 10 ∧ Xd Try.prog 11 ∧ Xd Try.prog 12 ∧ Xd Try.prog 13 ∧ Xd Try.prog 14 ∧ Xd Try.prog 15 ∧ Xd Try.prog 16 ∧ Xd Try.prog 17 ∧ Xd Try.prog 18 ∧ Xd Try.prog 19 ∧ Xd Try.prog 20 ∧ Xd Try.prog 21 ∧ Xd Try.prog 22 ∧ Xd Try.prog 23 ∧ Xd Try.prog 24 ∧ Xd Try.prog 25 ∧ Xd Try.prog 26 ∧ Xd Try.prog 27 ∧ Xd Try.prog 28 ∧ Xd Try.prog 29 ∧ Xd Try.prog 30 ∧ Xd Try.prog 31 ∧ Xd Try.prog 32 ∧ Xd Try.prog 33 ∧ Xd Try.prog 34 ∧ Xd Try.prog 35 ∧ Xd Try.prog 36 ∧ Xd Try.prog 37 ∧ Xd Try.prog 38 ∧ Xd Try.prog 39 ∧ Xd Try.prog 40 ∧ Xd Try.prog 41 ∧ Xd Try.prog 42 ∧ Xd Try.prog 43 ∧ Xd Try.prog 44 ∧ Xd Try.prog 45 ∧ Xd Try.prog 46 ∧ Xd Try.prog 47 ∧ Xd Try.prog 48 ∧ Xd Try.prog 49 ∧ Xd Try.prog 50 ∧ Xd Try.prog 51 ∧ Xd Try.prog 52 ∧ Xd Try.prog 53 ∧ Xd Try.prog 54 ∧ Xd Try.prog 55 ∧ Xd Try.prog 56 ∧ Xd Try.prog 57 ∧ Xd Try.prog 58 ∧ Xd Try.prog 59 ∧ Xd Try.prog 60 ∧ Xd Try.prog 61 ∧ Xd Try.prog 62 ∧ Xd Try.prog 63 ∧ Xd Try.prog 64 ∧ Xd Try.prog 65 ∧ Xd Try.prog 66 ∧ Xd Try.prog 67 ∧ Xd Try.prog 68 ∧ Xd Try.prog 69 ∧ Xd Try.prog 70 ∧ Xd Try.prog 71 ∧ Xd Try.prog 72 ∧ Xd Try.prog 73 ∧ Xd Try.prog 74 ∧ Xd Try.prog 75 ∧ Xd Try.prog 76 ∧ Xd Try.prog 77 ∧ Xd Try.prog 78 ∧ Xd Try.prog 79 ∧ Xd Try.prog 80 ∧ Xd Try.prog 81 ∧ Xd Try.prog 82 ∧ Xd Try.prog 83 ∧ Xd Try.prog 84 ∧ Xd Try.prog 85 ∧ Xd Try.prog 86 ∧ Xd Try.prog 87 ∧ Xd Try.prog 88 ∧ Xd Try.prog 89 ∧ Xd Try.prog 90 ∧ Xd Try.prog 91 ∧ Xd Try.prog 92 ∧ Xd Try.prog 93 ∧ Xd Try.prog 94 ∧ Xd Try.prog 95 ∧ Xd Try.prog 96 ∧ Xd Try.prog 97 ∧ Xd Try.prog 98 ∧ Xd Try.prog 99 ∧ Xd Try.prog 100 ∧ Xd Try.prog 101 ∧ Xd Try.prog 102 ∧ Xd Try.prog 103 ∧ Xd Try.prog 104 ∧ Xd Try.prog 105 ∧ Xd Try.prog 106 ∧ Xd Try.prog 107 ∧ Xd Try.prog 108 ∧ Xd Try.prog 109 ∧ Xd Try.prog 110 ∧ Xd Try.prog 111 ∧ Xd Try.prog 112 ∧ Xd Try.prog 113 ∧ Xd Try.prog 114 ∧ Xd Try.prog 115 ∧ Xd Try.prog 116 ∧ Xd Try.prog 117 ∧ Xd Try.prog 118 ∧ Xd Try.prog 119 ∧ Xd Try.prog 120 ∧ Xd Try.prog 121 ∧ Xd Try.prog 122 :=
 ⟨of_eq_true (hb0 3 (by decide) (by decide)), of_eq_true (hb0 4 (by decide) (by decide)), of_eq_true (hb0 5 (by decide) (by decide)), of_eq_true (hb0 6 (by decide) (by decide)), of_eq_true (hb0 7 (by decide) (by decide)), of_eq_true (hb0 8 (by decide) (by decide)), of_eq_true (hb0 9 (by decide) (by decide)), of_eq_true (hb0 10 (by decide) (by decide)), of_eq_true (hb0 11 (by decide) (by decide)), of_eq_true (hb0 12 (by decide) (by decide)), of_eq_true (hb0 13 (by decide) (by decide)), of_eq_true (hb0 14 (by decide) (by decide)), of_eq_true (hb0 15 (by decide) (by decide)), of_eq_true (hb0 16 (by decide) (by decide)), of_eq_true (hb0 17 (by decide) (by decide)), of_eq_true (hb0 18 (by decide) (by decide)), of_eq_true (hb0 19 (by decide) (by decide)), of_eq_true (hb0 20 (by decide) (by decide)), of_eq_true (hb0 21 (by decide) (by decide)), of_eq_true (hb0 22 (by decide) (by decide)), of_eq_true (hb0 23 (by decide) (by decide)), of_eq_true (hb0 24 (by decide) (by decide)), of_eq_true (hb0 25 (by decide) (by decide)), of_eq_true (hb0 26 (by decide) (by decide)), of_eq_true (hb0 27 (by decide) (by decide)), of_eq_true (hb0 28 (by decide) (by decide)), of_eq_true (hb0 29 (by decide) (by decide)), of_eq_true (hb0 30 (by decide) (by decide)), of_eq_true (hb0 31 (by decide) (by decide)), of_eq_true (hb0 32 (by decide) (by decide)), of_eq_true (hb0 33 (by decide) (by decide)), of_eq_true (hb0 34 (by decide) (by decide)), of_eq_true (hb0 35 (by decide) (by decide)), of_eq_true (hb0 36 (by decide) (by decide)), of_eq_true (hb0 37 (by decide) (by decide)), of_eq_true (hb0 38 (by decide) (by decide)), of_eq_true (hb0 39 (by decide) (by decide)), of_eq_true (hb0 40 (by decide) (by decide)), of_eq_true (hb0 41 (by decide) (by decide)), of_eq_true (hb0 42 (by decide) (by decide)), of_eq_true (hb0 43 (by decide) (by decide)), of_eq_true (hb0 44 (by decide) (by decide)), of_eq_true (hb0 45 (by decide) (by decide)), of_eq_true (hb0 46 (by decide) (by decide)), of_eq_true (hb0 47 (by decide) (by decide)), of_eq_true (hb0 48 (by decide) (by decide)), of_eq_true (hb0 49 (by decide) (by decide)), of_eq_true (hb0 50 (by decide) (by decide)), of_eq_true (hb0 51 (by decide) (by decide)), of_eq_true (hb0 52 (by decide) (by decide)), of_eq_true (hb0 53 (by decide) (by decide)), of_eq_true (hb0 54 (by decide) (by decide)), of_eq_true (hb0 55 (by decide) (by decide)), of_eq_true (hb0 56 (by decide) (by decide)), of_eq_true (hb0 57 (by decide) (by decide)), of_eq_true (hb0 58 (by decide) (by decide)), of_eq_true (hb0 59 (by decide) (by decide)), of_eq_true (hb0 60 (by decide) (by decide)), of_eq_true (hb0 61 (by decide) (by decide)), of_eq_true (hb0 62 (by decide) (by decide)), of_eq_true (hb0 63 (by decide) (by decide)), of_eq_true (hb0 64 (by decide) (by decide)), of_eq_true (hb0 65 (by decide) (by decide)), of_eq_true (hb0 66 (by decide) (by decide)), of_eq_true (hb0 67 (by decide) (by decide)), of_eq_true (hb0 68 (by decide) (by decide)), of_eq_true (hb0 69 (by decide) (by decide)), of_eq_true (hb0 70 (by decide) (by decide)), of_eq_true (hb0 71 (by decide) (by decide)), of_eq_true (hb0 72 (by decide) (by decide)), of_eq_true (hb0 73 (by decide) (by decide)), of_eq_true (hb0 74 (by decide) (by decide)), of_eq_true (hb0 75 (by decide) (by decide)), of_eq_true (hb0 76 (by decide) (by decide)), of_eq_true (hb0 77 (by decide) (by decide)), of_eq_true (hb0 78 (by decide) (by decide)), of_eq_true (hb0 79 (by decide) (by decide)), of_eq_true (hb0 80 (by decide) (by decide)), of_eq_true (hb0 81 (by decide) (by decide)), of_eq_true (hb0 82 (by decide) (by decide)), of_eq_true (hb0 83 (by decide) (by decide)), of_eq_true (hb0 84 (by decide) (by decide)), of_eq_true (hb0 85 (by decide) (by decide)), of_eq_true (hb0 86 (by decide) (by decide)), of_eq_true (hb0 87 (by decide) (by decide)), of_eq_true (hb0 88 (by decide) (by decide)), of_eq_true (hb0 89 (by decide) (by decide)), of_eq_true (hb0 90 (by decide) (by decide)), of_eq_true (hb0 91 (by decide) (by decide)), of_eq_true (hb0 92 (by decide) (by decide)), of_eq_true (hb0 93 (by decide) (by decide)), of_eq_true (hb0 94 (by decide) (by decide)), of_eq_true (hb0 95 (by decide) (by decide)), of_eq_true (hb0 96 (by decide) (by decide)), of_eq_true (hb0 97 (by decide) (by decide)), of_eq_true (hb0 98 (by decide) (by decide)), of_eq_true (hb0 99 (by decide) (by decide)), of_eq_true (hb0 100 (by decide) (by decide)), of_eq_true (hb0 101 (by decide) (by decide)), of_eq_true (hb0 102 (by decide) (by decide)), of_eq_true (hb0 103 (by decide) (by decide)), of_eq_true (hb0 104 (by decide) (by decide)), of_eq_true (hb0 105 (by decide) (by decide)), of_eq_true (hb0 106 (by decide) (by decide)), of_eq_true (hb0 107 (by decide) (by decide)), of_eq_true (hb0 108 (by decide) (by decide)), of_eq_true (hb0 109 (by decide) (by decide)), of_eq_true (hb0 110 (by decide) (by decide)), of_eq_true (hb0 111 (by decide) (by decide)), of_eq_true (hb0 112 (by decide) (by decide)), of_eq_true (hb0 113 (by decide) (by decide)), of_eq_true (hb0 114 (by decide) (by decide)), of_eq_true (hb0 115 (by decide) (by decide)), of_eq_true (hb0 116 (by decide) (by decide)), of_eq_true (hb0 117 (by decide) (by decide)), of_eq_true (hb0 118 (by decide) (by decide)), of_eq_true (hb0 119 (by decide) (by decide)), of_eq_true (hb0 120 (by decide) (by decide)), of_eq_true (hb0 121 (by decide) (by decide)), of_eq_true (hb0 122 (by decide) (by decide))⟩
end Go.Proofs.Ytgdhnngpfieloaa.Tab
