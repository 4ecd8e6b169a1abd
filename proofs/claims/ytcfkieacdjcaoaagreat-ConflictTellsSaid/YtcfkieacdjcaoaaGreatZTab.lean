/-
  The table of the types of this seat, for the value-semantics layer. Written by a program (mktab.py).
-/
import Derived.Test.YtcfkieacdjcaoaaGreatZVsBits
import Derived.Test.YtcfkieacdjcaoaaGreatRows
import Derived.KernelRfl
namespace Go.Proofs.YtcfkieacdjcaoaaGreat.Tab
open Go Go.VS
theorem tiok {P : Program} {t : TypeId} {ti : TI} {z : Value} (hu : P.underlying t = some ti.desc) (hi : (P.info? t).map (fun i => (i.size, i.bytes, i.zero)) = some (ti.size, ti.bytes, some z))
    (hz : z.cells.toList = ti.zero) (hl : ti.zero.all leafB = true) (hn : ti.zero.length = ti.size) (ha : ti.agg = isAggD ti.desc)
    (hp : ∀ fs, ti.desc = .struct fs → ∀ w, (fs.mapM fun f => (do pure (f.offset, ← sizeOf f.type) : Sem (Nat × Nat))).run P w = .ok ti.pl.toArray w) : TIok P t ti := by
  refine ⟨hu, ?_, hl, hn, ha, hp⟩
  cases h : P.info? t with
  | none => rw [h] at hi; cases hi
  | some i =>
    rw [h] at hi
    simp only [Option.map_some, Option.some.injEq, Prod.mk.injEq] at hi
    exact ⟨i, z, rfl, hi.1, hi.2.1, hi.2.2, hz⟩
abbrev ti1 : TI := { desc := .func #[] #[] false, size := 1, bytes := 8, zero := [.nilFunc], agg := false }
set_option maxRecDepth 100000 in
theorem ok1 : TIok Tryz.prog 1 ti1 := tiok (z := (.nilFunc)) (by kernel_rfl) (by kernel_rfl) rfl (by decide) rfl rfl (by intro fs h; cases h)
abbrev ti2 : TI := { desc := .int .i64, size := 1, bytes := 8, zero := [.int .i64 0], agg := false }
set_option maxRecDepth 100000 in
theorem ok2 : TIok Tryz.prog 2 ti2 := tiok (z := (.int .i64 0)) (by kernel_rfl) (by kernel_rfl) rfl (by decide) rfl rfl (by intro fs h; cases h)
abbrev ti3 : TI := { desc := .int .i64, size := 1, bytes := 8, zero := [.int .i64 0], agg := false }
set_option maxRecDepth 100000 in
theorem ok3 : TIok Tryz.prog 3 ti3 := tiok (z := (.int .i64 0)) (by kernel_rfl) (by kernel_rfl) rfl (by decide) rfl rfl (by intro fs h; cases h)
abbrev ti4 : TI := { desc := .bool, size := 1, bytes := 1, zero := [.bool false], agg := false }
set_option maxRecDepth 100000 in
theorem ok4 : TIok Tryz.prog 4 ti4 := tiok (z := (.bool false)) (by kernel_rfl) (by kernel_rfl) rfl (by decide) rfl rfl (by intro fs h; cases h)
abbrev ti5 : TI := { desc := .int .u8, size := 1, bytes := 1, zero := [.int .u8 0], agg := false }
set_option maxRecDepth 100000 in
theorem ok5 : TIok Tryz.prog 5 ti5 := tiok (z := (.int .u8 0)) (by kernel_rfl) (by kernel_rfl) rfl (by decide) rfl rfl (by intro fs h; cases h)
abbrev ti9 : TI := { desc := .string, size := 1, bytes := 16, zero := [.string ByteArray.empty], agg := false }
set_option maxRecDepth 100000 in
theorem ok9 : TIok Tryz.prog 9 ti9 := tiok (z := (.string ByteArray.empty)) (by kernel_rfl) (by kernel_rfl) rfl (by decide) rfl rfl (by intro fs h; cases h)
abbrev ti20 : TI := { desc := .interface #[], size := 1, bytes := 16, zero := [.nilIface], agg := false }
set_option maxRecDepth 100000 in
theorem ok20 : TIok Tryz.prog 20 ti20 := tiok (z := (.nilIface)) (by kernel_rfl) (by kernel_rfl) rfl (by decide) rfl rfl (by intro fs h; cases h)
abbrev ti22 : TI := { desc := .slice 50, size := 1, bytes := 24, zero := [.slice none 0 0], agg := false }
set_option maxRecDepth 100000 in
theorem ok22 : TIok Tryz.prog 22 ti22 := tiok (z := (.slice none 0 0)) (by kernel_rfl) (by kernel_rfl) rfl (by decide) rfl rfl (by intro fs h; cases h)
abbrev ti23 : TI := { desc := .slice 66, size := 1, bytes := 24, zero := [.slice none 0 0], agg := false }
set_option maxRecDepth 100000 in
theorem ok23 : TIok Tryz.prog 23 ti23 := tiok (z := (.slice none 0 0)) (by kernel_rfl) (by kernel_rfl) rfl (by decide) rfl rfl (by intro fs h; cases h)
abbrev ti24 : TI := { desc := .slice 68, size := 1, bytes := 24, zero := [.slice none 0 0], agg := false }
set_option maxRecDepth 100000 in
theorem ok24 : TIok Tryz.prog 24 ti24 := tiok (z := (.slice none 0 0)) (by kernel_rfl) (by kernel_rfl) rfl (by decide) rfl rfl (by intro fs h; cases h)
abbrev ti25 : TI := { desc := .slice 46, size := 1, bytes := 24, zero := [.slice none 0 0], agg := false }
set_option maxRecDepth 100000 in
theorem ok25 : TIok Tryz.prog 25 ti25 := tiok (z := (.slice none 0 0)) (by kernel_rfl) (by kernel_rfl) rfl (by decide) rfl rfl (by intro fs h; cases h)
abbrev ti26 : TI := { desc := .struct #[⟨ "Version", 3, 0, false, "", "", 0⟩, ⟨ "Parent", 3, 1, false, "", "", 8⟩, ⟨ "Sections", 22, 2, false, "", "", 16⟩, ⟨ "Points", 23, 3, false, "", "", 40⟩, ⟨ "Signals", 24, 4, false, "", "", 64⟩, ⟨ "Routes", 25, 5, false, "", "", 88⟩], size := 6, bytes := 112, zero := [.int .i64 0, .int .i64 0, .slice none 0 0, .slice none 0 0, .slice none 0 0, .slice none 0 0], agg := true, pl := [(0, 1), (1, 1), (2, 1), (3, 1), (4, 1), (5, 1)] }
set_option maxRecDepth 100000 in
theorem ok26 : TIok Tryz.prog 26 ti26 := tiok (z := (.agg ([.int .i64 0, .int .i64 0, .slice none 0 0, .slice none 0 0, .slice none 0 0, .slice none 0 0] : List Value).toArray)) (by kernel_rfl) (by kernel_rfl) rfl (by decide) rfl rfl (by intro fs h; injection h with h; subst h; intro w; kernel_rfl)
abbrev ti27 : TI := { desc := .struct #[⟨ "Version", 3, 0, false, "", "", 0⟩, ⟨ "Parent", 3, 1, false, "", "", 8⟩, ⟨ "Sections", 22, 2, false, "", "", 16⟩, ⟨ "Points", 23, 3, false, "", "", 40⟩, ⟨ "Signals", 24, 4, false, "", "", 64⟩, ⟨ "Routes", 25, 5, false, "", "", 88⟩], size := 6, bytes := 112, zero := [.int .i64 0, .int .i64 0, .slice none 0 0, .slice none 0 0, .slice none 0 0, .slice none 0 0], agg := true, pl := [(0, 1), (1, 1), (2, 1), (3, 1), (4, 1), (5, 1)] }
set_option maxRecDepth 100000 in
theorem ok27 : TIok Tryz.prog 27 ti27 := tiok (z := (.agg ([.int .i64 0, .int .i64 0, .slice none 0 0, .slice none 0 0, .slice none 0 0, .slice none 0 0] : List Value).toArray)) (by kernel_rfl) (by kernel_rfl) rfl (by decide) rfl rfl (by intro fs h; injection h with h; subst h; intro w; kernel_rfl)
abbrev ti30 : TI := { desc := .int .i64, size := 1, bytes := 8, zero := [.int .i64 0], agg := false }
set_option maxRecDepth 100000 in
theorem ok30 : TIok Tryz.prog 30 ti30 := tiok (z := (.int .i64 0)) (by kernel_rfl) (by kernel_rfl) rfl (by decide) rfl rfl (by intro fs h; cases h)
abbrev ti35 : TI := { desc := .slice 41, size := 1, bytes := 24, zero := [.slice none 0 0], agg := false }
set_option maxRecDepth 100000 in
theorem ok35 : TIok Tryz.prog 35 ti35 := tiok (z := (.slice none 0 0)) (by kernel_rfl) (by kernel_rfl) rfl (by decide) rfl rfl (by intro fs h; cases h)
abbrev ti41 : TI := { desc := .array 2 3, size := 2, bytes := 16, zero := [.int .i64 0, .int .i64 0], agg := true }
set_option maxRecDepth 100000 in
theorem ok41 : TIok Tryz.prog 41 ti41 := tiok (z := (.agg ([.int .i64 0, .int .i64 0] : List Value).toArray)) (by kernel_rfl) (by kernel_rfl) rfl (by decide) rfl rfl (by intro fs h; cases h)
abbrev ti43 : TI := { desc := .slice 3, size := 1, bytes := 24, zero := [.slice none 0 0], agg := false }
set_option maxRecDepth 100000 in
theorem ok43 : TIok Tryz.prog 43 ti43 := tiok (z := (.slice none 0 0)) (by kernel_rfl) (by kernel_rfl) rfl (by decide) rfl rfl (by intro fs h; cases h)
abbrev ti44 : TI := { desc := .slice 93, size := 1, bytes := 24, zero := [.slice none 0 0], agg := false }
set_option maxRecDepth 100000 in
theorem ok44 : TIok Tryz.prog 44 ti44 := tiok (z := (.slice none 0 0)) (by kernel_rfl) (by kernel_rfl) rfl (by decide) rfl rfl (by intro fs h; cases h)
abbrev ti45 : TI := { desc := .struct #[⟨ "Id", 3, 0, false, "", "", 0⟩, ⟨ "Entry", 3, 1, false, "", "", 8⟩, ⟨ "Exit", 3, 2, false, "", "", 16⟩, ⟨ "Path", 43, 3, false, "", "", 24⟩, ⟨ "Over", 43, 4, false, "", "", 48⟩, ⟨ "Flanks", 44, 5, false, "", "", 72⟩, ⟨ "Timer", 3, 6, false, "", "", 96⟩], size := 7, bytes := 104, zero := [.int .i64 0, .int .i64 0, .int .i64 0, .slice none 0 0, .slice none 0 0, .slice none 0 0, .int .i64 0], agg := true, pl := [(0, 1), (1, 1), (2, 1), (3, 1), (4, 1), (5, 1), (6, 1)] }
set_option maxRecDepth 100000 in
theorem ok45 : TIok Tryz.prog 45 ti45 := tiok (z := (.agg ([.int .i64 0, .int .i64 0, .int .i64 0, .slice none 0 0, .slice none 0 0, .slice none 0 0, .int .i64 0] : List Value).toArray)) (by kernel_rfl) (by kernel_rfl) rfl (by decide) rfl rfl (by intro fs h; injection h with h; subst h; intro w; kernel_rfl)
abbrev ti46 : TI := { desc := .struct #[⟨ "Id", 3, 0, false, "", "", 0⟩, ⟨ "Entry", 3, 1, false, "", "", 8⟩, ⟨ "Exit", 3, 2, false, "", "", 16⟩, ⟨ "Path", 43, 3, false, "", "", 24⟩, ⟨ "Over", 43, 4, false, "", "", 48⟩, ⟨ "Flanks", 44, 5, false, "", "", 72⟩, ⟨ "Timer", 3, 6, false, "", "", 96⟩], size := 7, bytes := 104, zero := [.int .i64 0, .int .i64 0, .int .i64 0, .slice none 0 0, .slice none 0 0, .slice none 0 0, .int .i64 0], agg := true, pl := [(0, 1), (1, 1), (2, 1), (3, 1), (4, 1), (5, 1), (6, 1)] }
set_option maxRecDepth 100000 in
theorem ok46 : TIok Tryz.prog 46 ti46 := tiok (z := (.agg ([.int .i64 0, .int .i64 0, .int .i64 0, .slice none 0 0, .slice none 0 0, .slice none 0 0, .int .i64 0] : List Value).toArray)) (by kernel_rfl) (by kernel_rfl) rfl (by decide) rfl rfl (by intro fs h; injection h with h; subst h; intro w; kernel_rfl)
abbrev ti48 : TI := { desc := .slice 96, size := 1, bytes := 24, zero := [.slice none 0 0], agg := false }
set_option maxRecDepth 100000 in
theorem ok48 : TIok Tryz.prog 48 ti48 := tiok (z := (.slice none 0 0)) (by kernel_rfl) (by kernel_rfl) rfl (by decide) rfl rfl (by intro fs h; cases h)
abbrev ti49 : TI := { desc := .struct #[⟨ "Id", 3, 0, false, "", "", 0⟩, ⟨ "Point", 3, 1, false, "", "", 8⟩, ⟨ "Ends", 48, 2, false, "", "", 16⟩], size := 3, bytes := 40, zero := [.int .i64 0, .int .i64 0, .slice none 0 0], agg := true, pl := [(0, 1), (1, 1), (2, 1)] }
set_option maxRecDepth 100000 in
theorem ok49 : TIok Tryz.prog 49 ti49 := tiok (z := (.agg ([.int .i64 0, .int .i64 0, .slice none 0 0] : List Value).toArray)) (by kernel_rfl) (by kernel_rfl) rfl (by decide) rfl rfl (by intro fs h; injection h with h; subst h; intro w; kernel_rfl)
abbrev ti50 : TI := { desc := .struct #[⟨ "Id", 3, 0, false, "", "", 0⟩, ⟨ "Point", 3, 1, false, "", "", 8⟩, ⟨ "Ends", 48, 2, false, "", "", 16⟩], size := 3, bytes := 40, zero := [.int .i64 0, .int .i64 0, .slice none 0 0], agg := true, pl := [(0, 1), (1, 1), (2, 1)] }
set_option maxRecDepth 100000 in
theorem ok50 : TIok Tryz.prog 50 ti50 := tiok (z := (.agg ([.int .i64 0, .int .i64 0, .slice none 0 0] : List Value).toArray)) (by kernel_rfl) (by kernel_rfl) rfl (by decide) rfl rfl (by intro fs h; injection h with h; subst h; intro w; kernel_rfl)
abbrev ti54 : TI := { desc := .slice 85, size := 1, bytes := 24, zero := [.slice none 0 0], agg := false }
set_option maxRecDepth 100000 in
theorem ok54 : TIok Tryz.prog 54 ti54 := tiok (z := (.slice none 0 0)) (by kernel_rfl) (by kernel_rfl) rfl (by decide) rfl rfl (by intro fs h; cases h)
abbrev ti55 : TI := { desc := .struct #[⟨ "Path", 43, 0, false, "", "", 0⟩, ⟨ "Over", 43, 1, false, "", "", 24⟩, ⟨ "Asks", 54, 2, false, "", "", 48⟩, ⟨ "Near", 3, 3, false, "", "", 72⟩], size := 4, bytes := 80, zero := [.slice none 0 0, .slice none 0 0, .slice none 0 0, .int .i64 0], agg := true, pl := [(0, 1), (1, 1), (2, 1), (3, 1)] }
set_option maxRecDepth 100000 in
theorem ok55 : TIok Tryz.prog 55 ti55 := tiok (z := (.agg ([.slice none 0 0, .slice none 0 0, .slice none 0 0, .int .i64 0] : List Value).toArray)) (by kernel_rfl) (by kernel_rfl) rfl (by decide) rfl rfl (by intro fs h; injection h with h; subst h; intro w; kernel_rfl)
abbrev ti56 : TI := { desc := .struct #[⟨ "Path", 43, 0, false, "", "", 0⟩, ⟨ "Over", 43, 1, false, "", "", 24⟩, ⟨ "Asks", 54, 2, false, "", "", 48⟩, ⟨ "Near", 3, 3, false, "", "", 72⟩], size := 4, bytes := 80, zero := [.slice none 0 0, .slice none 0 0, .slice none 0 0, .int .i64 0], agg := true, pl := [(0, 1), (1, 1), (2, 1), (3, 1)] }
set_option maxRecDepth 100000 in
theorem ok56 : TIok Tryz.prog 56 ti56 := tiok (z := (.agg ([.slice none 0 0, .slice none 0 0, .slice none 0 0, .int .i64 0] : List Value).toArray)) (by kernel_rfl) (by kernel_rfl) rfl (by decide) rfl rfl (by intro fs h; injection h with h; subst h; intro w; kernel_rfl)
abbrev ti65 : TI := { desc := .struct #[⟨ "Id", 3, 0, false, "", "", 0⟩, ⟨ "Section", 3, 1, false, "", "", 8⟩], size := 2, bytes := 16, zero := [.int .i64 0, .int .i64 0], agg := true, pl := [(0, 1), (1, 1)] }
set_option maxRecDepth 100000 in
theorem ok65 : TIok Tryz.prog 65 ti65 := tiok (z := (.agg ([.int .i64 0, .int .i64 0] : List Value).toArray)) (by kernel_rfl) (by kernel_rfl) rfl (by decide) rfl rfl (by intro fs h; injection h with h; subst h; intro w; kernel_rfl)
abbrev ti66 : TI := { desc := .struct #[⟨ "Id", 3, 0, false, "", "", 0⟩, ⟨ "Section", 3, 1, false, "", "", 8⟩], size := 2, bytes := 16, zero := [.int .i64 0, .int .i64 0], agg := true, pl := [(0, 1), (1, 1)] }
set_option maxRecDepth 100000 in
theorem ok66 : TIok Tryz.prog 66 ti66 := tiok (z := (.agg ([.int .i64 0, .int .i64 0] : List Value).toArray)) (by kernel_rfl) (by kernel_rfl) rfl (by decide) rfl rfl (by intro fs h; injection h with h; subst h; intro w; kernel_rfl)
abbrev ti67 : TI := { desc := .struct #[⟨ "Id", 3, 0, false, "", "", 0⟩, ⟨ "Section", 3, 1, false, "", "", 8⟩, ⟨ "End", 3, 2, false, "", "", 16⟩], size := 3, bytes := 24, zero := [.int .i64 0, .int .i64 0, .int .i64 0], agg := true, pl := [(0, 1), (1, 1), (2, 1)] }
set_option maxRecDepth 100000 in
theorem ok67 : TIok Tryz.prog 67 ti67 := tiok (z := (.agg ([.int .i64 0, .int .i64 0, .int .i64 0] : List Value).toArray)) (by kernel_rfl) (by kernel_rfl) rfl (by decide) rfl rfl (by intro fs h; injection h with h; subst h; intro w; kernel_rfl)
abbrev ti68 : TI := { desc := .struct #[⟨ "Id", 3, 0, false, "", "", 0⟩, ⟨ "Section", 3, 1, false, "", "", 8⟩, ⟨ "End", 3, 2, false, "", "", 16⟩], size := 3, bytes := 24, zero := [.int .i64 0, .int .i64 0, .int .i64 0], agg := true, pl := [(0, 1), (1, 1), (2, 1)] }
set_option maxRecDepth 100000 in
theorem ok68 : TIok Tryz.prog 68 ti68 := tiok (z := (.agg ([.int .i64 0, .int .i64 0, .int .i64 0] : List Value).toArray)) (by kernel_rfl) (by kernel_rfl) rfl (by decide) rfl rfl (by intro fs h; injection h with h; subst h; intro w; kernel_rfl)
abbrev ti70 : TI := { desc := .slice 56, size := 1, bytes := 24, zero := [.slice none 0 0], agg := false }
set_option maxRecDepth 100000 in
theorem ok70 : TIok Tryz.prog 70 ti70 := tiok (z := (.slice none 0 0)) (by kernel_rfl) (by kernel_rfl) rfl (by decide) rfl rfl (by intro fs h; cases h)
abbrev ti71 : TI := { desc := .slice 48, size := 1, bytes := 24, zero := [.slice none 0 0], agg := false }
set_option maxRecDepth 100000 in
theorem ok71 : TIok Tryz.prog 71 ti71 := tiok (z := (.slice none 0 0)) (by kernel_rfl) (by kernel_rfl) rfl (by decide) rfl rfl (by intro fs h; cases h)
abbrev ti82 : TI := { desc := .func #[3, 3] #[4] false, size := 1, bytes := 8, zero := [.nilFunc], agg := false }
set_option maxRecDepth 100000 in
theorem ok82 : TIok Tryz.prog 82 ti82 := tiok (z := (.nilFunc)) (by kernel_rfl) (by kernel_rfl) rfl (by decide) rfl rfl (by intro fs h; cases h)
abbrev ti84 : TI := { desc := .struct #[⟨ "Point", 3, 0, false, "", "", 0⟩, ⟨ "Lie", 3, 1, false, "", "", 8⟩, ⟨ "At", 3, 2, false, "", "", 16⟩], size := 3, bytes := 24, zero := [.int .i64 0, .int .i64 0, .int .i64 0], agg := true, pl := [(0, 1), (1, 1), (2, 1)] }
set_option maxRecDepth 100000 in
theorem ok84 : TIok Tryz.prog 84 ti84 := tiok (z := (.agg ([.int .i64 0, .int .i64 0, .int .i64 0] : List Value).toArray)) (by kernel_rfl) (by kernel_rfl) rfl (by decide) rfl rfl (by intro fs h; injection h with h; subst h; intro w; kernel_rfl)
abbrev ti85 : TI := { desc := .struct #[⟨ "Point", 3, 0, false, "", "", 0⟩, ⟨ "Lie", 3, 1, false, "", "", 8⟩, ⟨ "At", 3, 2, false, "", "", 16⟩], size := 3, bytes := 24, zero := [.int .i64 0, .int .i64 0, .int .i64 0], agg := true, pl := [(0, 1), (1, 1), (2, 1)] }
set_option maxRecDepth 100000 in
theorem ok85 : TIok Tryz.prog 85 ti85 := tiok (z := (.agg ([.int .i64 0, .int .i64 0, .int .i64 0] : List Value).toArray)) (by kernel_rfl) (by kernel_rfl) rfl (by decide) rfl rfl (by intro fs h; injection h with h; subst h; intro w; kernel_rfl)
abbrev ti86 : TI := { desc := .func #[85, 85] #[4] false, size := 1, bytes := 8, zero := [.nilFunc], agg := false }
set_option maxRecDepth 100000 in
theorem ok86 : TIok Tryz.prog 86 ti86 := tiok (z := (.nilFunc)) (by kernel_rfl) (by kernel_rfl) rfl (by decide) rfl rfl (by intro fs h; cases h)
abbrev ti92 : TI := { desc := .struct #[⟨ "Point", 3, 0, false, "", "", 0⟩, ⟨ "Lie", 3, 1, false, "", "", 8⟩], size := 2, bytes := 16, zero := [.int .i64 0, .int .i64 0], agg := true, pl := [(0, 1), (1, 1)] }
set_option maxRecDepth 100000 in
theorem ok92 : TIok Tryz.prog 92 ti92 := tiok (z := (.agg ([.int .i64 0, .int .i64 0] : List Value).toArray)) (by kernel_rfl) (by kernel_rfl) rfl (by decide) rfl rfl (by intro fs h; injection h with h; subst h; intro w; kernel_rfl)
abbrev ti93 : TI := { desc := .struct #[⟨ "Point", 3, 0, false, "", "", 0⟩, ⟨ "Lie", 3, 1, false, "", "", 8⟩], size := 2, bytes := 16, zero := [.int .i64 0, .int .i64 0], agg := true, pl := [(0, 1), (1, 1)] }
set_option maxRecDepth 100000 in
theorem ok93 : TIok Tryz.prog 93 ti93 := tiok (z := (.agg ([.int .i64 0, .int .i64 0] : List Value).toArray)) (by kernel_rfl) (by kernel_rfl) rfl (by decide) rfl rfl (by intro fs h; injection h with h; subst h; intro w; kernel_rfl)
abbrev ti94 : TI := { desc := .array 100 4, size := 100, bytes := 100, zero := List.replicate 100 (.bool false), agg := true }
set_option maxRecDepth 100000 in
theorem ok94 : TIok Tryz.prog 94 ti94 := tiok (z := (.agg (List.replicate 100 (.bool false) : List Value).toArray)) (by kernel_rfl) (by kernel_rfl) rfl (by decide) rfl rfl (by intro fs h; cases h)
abbrev ti95 : TI := { desc := .struct #[⟨ "To", 3, 0, false, "", "", 0⟩, ⟨ "End", 3, 1, false, "", "", 8⟩], size := 2, bytes := 16, zero := [.int .i64 0, .int .i64 0], agg := true, pl := [(0, 1), (1, 1)] }
set_option maxRecDepth 100000 in
theorem ok95 : TIok Tryz.prog 95 ti95 := tiok (z := (.agg ([.int .i64 0, .int .i64 0] : List Value).toArray)) (by kernel_rfl) (by kernel_rfl) rfl (by decide) rfl rfl (by intro fs h; injection h with h; subst h; intro w; kernel_rfl)
abbrev ti96 : TI := { desc := .struct #[⟨ "To", 3, 0, false, "", "", 0⟩, ⟨ "End", 3, 1, false, "", "", 8⟩], size := 2, bytes := 16, zero := [.int .i64 0, .int .i64 0], agg := true, pl := [(0, 1), (1, 1)] }
set_option maxRecDepth 100000 in
theorem ok96 : TIok Tryz.prog 96 ti96 := tiok (z := (.agg ([.int .i64 0, .int .i64 0] : List Value).toArray)) (by kernel_rfl) (by kernel_rfl) rfl (by decide) rfl rfl (by intro fs h; injection h with h; subst h; intro w; kernel_rfl)
abbrev ti99 : TI := { desc := .pointer 101, size := 1, bytes := 8, zero := [.pointer none], agg := false }
set_option maxRecDepth 100000 in
theorem ok99 : TIok Tryz.prog 99 ti99 := tiok (z := (.pointer none)) (by kernel_rfl) (by kernel_rfl) rfl (by decide) rfl rfl (by intro fs h; cases h)
abbrev ti100 : TI := { desc := .struct #[⟨ "plan", 27, 0, false, "", "leverframe/way", 0⟩, ⟨ "in", 96, 6, false, "", "leverframe/way", 112⟩, ⟨ "asks", 54, 8, false, "", "leverframe/way", 128⟩, ⟨ "outs", 48, 9, false, "", "leverframe/way", 152⟩, ⟨ "lost", 4, 10, false, "", "leverframe/way", 176⟩], size := 11, bytes := 184, zero := [.int .i64 0, .int .i64 0, .slice none 0 0, .slice none 0 0, .slice none 0 0, .slice none 0 0, .int .i64 0, .int .i64 0, .slice none 0 0, .slice none 0 0, .bool false], agg := true, pl := [(0, 6), (6, 2), (8, 1), (9, 1), (10, 1)] }
set_option maxRecDepth 100000 in
theorem ok100 : TIok Tryz.prog 100 ti100 := tiok (z := (.agg ([.int .i64 0, .int .i64 0, .slice none 0 0, .slice none 0 0, .slice none 0 0, .slice none 0 0, .int .i64 0, .int .i64 0, .slice none 0 0, .slice none 0 0, .bool false] : List Value).toArray)) (by kernel_rfl) (by kernel_rfl) rfl (by decide) rfl rfl (by intro fs h; injection h with h; subst h; intro w; kernel_rfl)
abbrev ti101 : TI := { desc := .struct #[⟨ "plan", 27, 0, false, "", "leverframe/way", 0⟩, ⟨ "in", 96, 6, false, "", "leverframe/way", 112⟩, ⟨ "asks", 54, 8, false, "", "leverframe/way", 128⟩, ⟨ "outs", 48, 9, false, "", "leverframe/way", 152⟩, ⟨ "lost", 4, 10, false, "", "leverframe/way", 176⟩], size := 11, bytes := 184, zero := [.int .i64 0, .int .i64 0, .slice none 0 0, .slice none 0 0, .slice none 0 0, .slice none 0 0, .int .i64 0, .int .i64 0, .slice none 0 0, .slice none 0 0, .bool false], agg := true, pl := [(0, 6), (6, 2), (8, 1), (9, 1), (10, 1)] }
set_option maxRecDepth 100000 in
theorem ok101 : TIok Tryz.prog 101 ti101 := tiok (z := (.agg ([.int .i64 0, .int .i64 0, .slice none 0 0, .slice none 0 0, .slice none 0 0, .slice none 0 0, .int .i64 0, .int .i64 0, .slice none 0 0, .slice none 0 0, .bool false] : List Value).toArray)) (by kernel_rfl) (by kernel_rfl) rfl (by decide) rfl rfl (by intro fs h; injection h with h; subst h; intro w; kernel_rfl)
abbrev ti104 : TI := { desc := .func #[3, 96] #[4] false, size := 1, bytes := 8, zero := [.nilFunc], agg := false }
set_option maxRecDepth 100000 in
theorem ok104 : TIok Tryz.prog 104 ti104 := tiok (z := (.nilFunc)) (by kernel_rfl) (by kernel_rfl) rfl (by decide) rfl rfl (by intro fs h; cases h)
abbrev ti109 : TI := { desc := .func #[3] #[4] false, size := 1, bytes := 8, zero := [.nilFunc], agg := false }
set_option maxRecDepth 100000 in
theorem ok109 : TIok Tryz.prog 109 ti109 := tiok (z := (.nilFunc)) (by kernel_rfl) (by kernel_rfl) rfl (by decide) rfl rfl (by intro fs h; cases h)
abbrev ti111 : TI := { desc := .func #[85] #[4] false, size := 1, bytes := 8, zero := [.nilFunc], agg := false }
set_option maxRecDepth 100000 in
theorem ok111 : TIok Tryz.prog 111 ti111 := tiok (z := (.nilFunc)) (by kernel_rfl) (by kernel_rfl) rfl (by decide) rfl rfl (by intro fs h; cases h)
abbrev ti120 : TI := { desc := .array 100 3, size := 100, bytes := 800, zero := List.replicate 100 (.int .i64 0), agg := true }
set_option maxRecDepth 100000 in
theorem ok120 : TIok Tryz.prog 120 ti120 := tiok (z := (.agg (List.replicate 100 (.int .i64 0) : List Value).toArray)) (by kernel_rfl) (by kernel_rfl) rfl (by decide) rfl rfl (by intro fs h; cases h)
abbrev ti128 : TI := { desc := .slice 43, size := 1, bytes := 24, zero := [.slice none 0 0], agg := false }
set_option maxRecDepth 100000 in
theorem ok128 : TIok Tryz.prog 128 ti128 := tiok (z := (.slice none 0 0)) (by kernel_rfl) (by kernel_rfl) rfl (by decide) rfl rfl (by intro fs h; cases h)
abbrev ti137 : TI := { desc := .func #[50] #[4] false, size := 1, bytes := 8, zero := [.nilFunc], agg := false }
set_option maxRecDepth 100000 in
theorem ok137 : TIok Tryz.prog 137 ti137 := tiok (z := (.nilFunc)) (by kernel_rfl) (by kernel_rfl) rfl (by decide) rfl rfl (by intro fs h; cases h)
abbrev ti142 : TI := { desc := .func #[66] #[4] false, size := 1, bytes := 8, zero := [.nilFunc], agg := false }
set_option maxRecDepth 100000 in
theorem ok142 : TIok Tryz.prog 142 ti142 := tiok (z := (.nilFunc)) (by kernel_rfl) (by kernel_rfl) rfl (by decide) rfl rfl (by intro fs h; cases h)
abbrev ti144 : TI := { desc := .array 3 4, size := 3, bytes := 3, zero := [.bool false, .bool false, .bool false], agg := true }
set_option maxRecDepth 100000 in
theorem ok144 : TIok Tryz.prog 144 ti144 := tiok (z := (.agg ([.bool false, .bool false, .bool false] : List Value).toArray)) (by kernel_rfl) (by kernel_rfl) rfl (by decide) rfl rfl (by intro fs h; cases h)
abbrev ti145 : TI := { desc := .array 100 144, size := 300, bytes := 300, zero := List.replicate 300 (.bool false), agg := true }
set_option maxRecDepth 100000 in
theorem ok145 : TIok Tryz.prog 145 ti145 := tiok (z := (.agg (List.replicate 300 (.bool false) : List Value).toArray)) (by kernel_rfl) (by kernel_rfl) rfl (by decide) rfl rfl (by intro fs h; cases h)
abbrev ti153 : TI := { desc := .func #[46] #[4] false, size := 1, bytes := 8, zero := [.nilFunc], agg := false }
set_option maxRecDepth 100000 in
theorem ok153 : TIok Tryz.prog 153 ti153 := tiok (z := (.nilFunc)) (by kernel_rfl) (by kernel_rfl) rfl (by decide) rfl rfl (by intro fs h; cases h)
abbrev ti155 : TI := { desc := .array 3 3, size := 3, bytes := 24, zero := [.int .i64 0, .int .i64 0, .int .i64 0], agg := true }
set_option maxRecDepth 100000 in
theorem ok155 : TIok Tryz.prog 155 ti155 := tiok (z := (.agg ([.int .i64 0, .int .i64 0, .int .i64 0] : List Value).toArray)) (by kernel_rfl) (by kernel_rfl) rfl (by decide) rfl rfl (by intro fs h; cases h)
abbrev ti156 : TI := { desc := .array 3 155, size := 9, bytes := 72, zero := List.replicate 9 (.int .i64 0), agg := true }
set_option maxRecDepth 100000 in
theorem ok156 : TIok Tryz.prog 156 ti156 := tiok (z := (.agg (List.replicate 9 (.int .i64 0) : List Value).toArray)) (by kernel_rfl) (by kernel_rfl) rfl (by decide) rfl rfl (by intro fs h; cases h)
abbrev ti157 : TI := { desc := .array 3 155, size := 9, bytes := 72, zero := List.replicate 9 (.int .i64 0), agg := true }
set_option maxRecDepth 100000 in
theorem ok157 : TIok Tryz.prog 157 ti157 := tiok (z := (.agg (List.replicate 9 (.int .i64 0) : List Value).toArray)) (by kernel_rfl) (by kernel_rfl) rfl (by decide) rfl rfl (by intro fs h; cases h)
abbrev ti163 : TI := { desc := .func #[50, 3] #[3] false, size := 1, bytes := 8, zero := [.nilFunc], agg := false }
set_option maxRecDepth 100000 in
theorem ok163 : TIok Tryz.prog 163 ti163 := tiok (z := (.nilFunc)) (by kernel_rfl) (by kernel_rfl) rfl (by decide) rfl rfl (by intro fs h; cases h)
abbrev ti168 : TI := { desc := .func #[68] #[4] false, size := 1, bytes := 8, zero := [.nilFunc], agg := false }
set_option maxRecDepth 100000 in
theorem ok168 : TIok Tryz.prog 168 ti168 := tiok (z := (.nilFunc)) (by kernel_rfl) (by kernel_rfl) rfl (by decide) rfl rfl (by intro fs h; cases h)
abbrev ti169 : TI := { desc := .int .u64, size := 1, bytes := 8, zero := [.int .u64 0], agg := false }
set_option maxRecDepth 100000 in
theorem ok169 : TIok Tryz.prog 169 ti169 := tiok (z := (.int .u64 0)) (by kernel_rfl) (by kernel_rfl) rfl (by decide) rfl rfl (by intro fs h; cases h)
def tab : TypeId → Option TI := fun t =>
  match t with
  | 1 => some ti1
  | 2 => some ti2
  | 3 => some ti3
  | 4 => some ti4
  | 5 => some ti5
  | 9 => some ti9
  | 20 => some ti20
  | 22 => some ti22
  | 23 => some ti23
  | 24 => some ti24
  | 25 => some ti25
  | 26 => some ti26
  | 27 => some ti27
  | 30 => some ti30
  | 35 => some ti35
  | 41 => some ti41
  | 43 => some ti43
  | 44 => some ti44
  | 45 => some ti45
  | 46 => some ti46
  | 48 => some ti48
  | 49 => some ti49
  | 50 => some ti50
  | 54 => some ti54
  | 55 => some ti55
  | 56 => some ti56
  | 65 => some ti65
  | 66 => some ti66
  | 67 => some ti67
  | 68 => some ti68
  | 70 => some ti70
  | 71 => some ti71
  | 82 => some ti82
  | 84 => some ti84
  | 85 => some ti85
  | 86 => some ti86
  | 92 => some ti92
  | 93 => some ti93
  | 94 => some ti94
  | 95 => some ti95
  | 96 => some ti96
  | 99 => some ti99
  | 100 => some ti100
  | 101 => some ti101
  | 104 => some ti104
  | 109 => some ti109
  | 111 => some ti111
  | 120 => some ti120
  | 128 => some ti128
  | 137 => some ti137
  | 142 => some ti142
  | 144 => some ti144
  | 145 => some ti145
  | 153 => some ti153
  | 155 => some ti155
  | 156 => some ti156
  | 157 => some ti157
  | 163 => some ti163
  | 168 => some ti168
  | 169 => some ti169
  | _ => none
theorem tab_ok : TabOk Tryz.prog tab := by
  intro t ti h
  unfold tab at h
  split at h
  · cases h; exact ok1
  · cases h; exact ok2
  · cases h; exact ok3
  · cases h; exact ok4
  · cases h; exact ok5
  · cases h; exact ok9
  · cases h; exact ok20
  · cases h; exact ok22
  · cases h; exact ok23
  · cases h; exact ok24
  · cases h; exact ok25
  · cases h; exact ok26
  · cases h; exact ok27
  · cases h; exact ok30
  · cases h; exact ok35
  · cases h; exact ok41
  · cases h; exact ok43
  · cases h; exact ok44
  · cases h; exact ok45
  · cases h; exact ok46
  · cases h; exact ok48
  · cases h; exact ok49
  · cases h; exact ok50
  · cases h; exact ok54
  · cases h; exact ok55
  · cases h; exact ok56
  · cases h; exact ok65
  · cases h; exact ok66
  · cases h; exact ok67
  · cases h; exact ok68
  · cases h; exact ok70
  · cases h; exact ok71
  · cases h; exact ok82
  · cases h; exact ok84
  · cases h; exact ok85
  · cases h; exact ok86
  · cases h; exact ok92
  · cases h; exact ok93
  · cases h; exact ok94
  · cases h; exact ok95
  · cases h; exact ok96
  · cases h; exact ok99
  · cases h; exact ok100
  · cases h; exact ok101
  · cases h; exact ok104
  · cases h; exact ok109
  · cases h; exact ok111
  · cases h; exact ok120
  · cases h; exact ok128
  · cases h; exact ok137
  · cases h; exact ok142
  · cases h; exact ok144
  · cases h; exact ok145
  · cases h; exact ok153
  · cases h; exact ok155
  · cases h; exact ok156
  · cases h; exact ok157
  · cases h; exact ok163
  · cases h; exact ok168
  · cases h; exact ok169
  · cases h
theorem follows : Tryz.prog.follows .mixedOrders = true := by kernel_rfl
theorem hb0 (f : Nat) (h2 : 2 < f) (hf : f < 111) : hasBody Tryz.prog f = True := hasBody_of (n := 111) (by kernel_rfl) f h2 hf
theorem hbT : hasBody Tryz.prog 3 ∧ hasBody Tryz.prog 4 ∧ hasBody Tryz.prog 5 ∧ hasBody Tryz.prog 6 ∧ hasBody Tryz.prog 7 ∧ hasBody Tryz.prog 8 ∧ hasBody Tryz.prog 9 ∧ hasBody Tryz.prog 10 ∧ hasBody Tryz.prog 11 ∧ hasBody Tryz.prog 12 ∧ hasBody Tryz.prog 13 ∧ hasBody Tryz.prog 14 ∧ hasBody Tryz.prog 15 ∧ hasBody Tryz.prog 16 ∧ hasBody Tryz.prog 17 ∧ hasBody Tryz.prog 18 ∧ hasBody Tryz.prog 19 ∧ hasBody Tryz.prog 20 ∧ hasBody Tryz.prog 21 ∧ hasBody Tryz.prog 22 ∧ hasBody Tryz.prog 23 ∧ hasBody Tryz.prog 24 ∧ hasBody Tryz.prog 25 ∧ hasBody Tryz.prog 26 ∧ hasBody Tryz.prog 27 ∧ hasBody Tryz.prog 28 ∧ hasBody Tryz.prog 29 ∧ hasBody Tryz.prog 30 ∧ hasBody Tryz.prog 31 ∧ hasBody Tryz.prog 32 ∧ hasBody Tryz.prog 33 ∧ hasBody Tryz.prog 34 ∧ hasBody Tryz.prog 35 ∧ hasBody Tryz.prog 36 ∧ hasBody Tryz.prog 37 ∧ hasBody Tryz.prog 38 ∧ hasBody Tryz.prog 39 ∧ hasBody Tryz.prog 40 ∧ hasBody Tryz.prog 41 ∧ hasBody Tryz.prog 42 ∧ hasBody Tryz.prog 43 ∧ hasBody Tryz.prog 44 ∧ hasBody Tryz.prog 45 ∧ hasBody Tryz.prog 46 ∧ hasBody Tryz.prog 47 ∧ hasBody Tryz.prog 48 ∧ hasBody Tryz.prog 49 ∧ hasBody Tryz.prog 50 ∧ hasBody Tryz.prog 51 ∧ hasBody Tryz.prog 52 ∧ hasBody Tryz.prog 53 ∧ hasBody Tryz.prog 54 ∧ hasBody Tryz.prog 55 ∧ hasBody Tryz.prog 56 ∧ hasBody Tryz.prog 57 ∧ hasBody Tryz.prog 58 ∧ hasBody Tryz.prog 59 ∧ hasBody Tryz.prog 60 ∧ hasBody Tryz.prog 61 ∧ hasBody Tryz.prog 62 ∧ hasBody Tryz.prog 63 ∧ hasBody Tryz.prog 64 ∧ hasBody Tryz.prog 65 ∧ hasBody Tryz.prog 66 ∧ hasBody Tryz.prog 67 ∧ hasBody Tryz.prog 68 ∧ hasBody Tryz.prog 69 ∧ hasBody Tryz.prog 70 ∧ hasBody Tryz.prog 71 ∧ hasBody Tryz.prog 72 ∧ hasBody Tryz.prog 73 ∧ hasBody Tryz.prog 74 ∧ hasBody Tryz.prog 75 ∧ hasBody Tryz.prog 76 ∧ hasBody Tryz.prog 77 ∧ hasBody Tryz.prog 78 ∧ hasBody Tryz.prog 79 ∧ hasBody Tryz.prog 80 ∧ hasBody Tryz.prog 81 ∧ hasBody Tryz.prog 82 ∧ hasBody Tryz.prog 83 ∧ hasBody Tryz.prog 84 ∧ hasBody Tryz.prog 85 ∧ hasBody Tryz.prog 86 ∧ hasBody Tryz.prog 87 ∧ hasBody Tryz.prog 88 ∧ hasBody Tryz.prog 89 ∧ hasBody Tryz.prog 90 ∧ hasBody Tryz.prog 91 ∧ hasBody Tryz.prog 92 ∧ hasBody Tryz.prog 93 ∧ hasBody Tryz.prog 94 ∧ hasBody Tryz.prog 95 ∧ hasBody Tryz.prog 96 ∧ hasBody Tryz.prog 97 ∧ hasBody Tryz.prog 98 ∧ hasBody Tryz.prog 99 ∧ hasBody Tryz.prog 100 ∧ hasBody Tryz.prog 101 ∧ hasBody Tryz.prog 102 ∧ hasBody Tryz.prog 103 ∧ hasBody Tryz.prog 104 ∧ hasBody Tryz.prog 105 ∧ hasBody Tryz.prog 106 ∧ hasBody Tryz.prog 107 ∧ hasBody Tryz.prog 108 ∧ hasBody Tryz.prog 109 ∧ hasBody Tryz.prog 110 :=
  ⟨of_eq_true (hb0 3 (by decide) (by decide)), of_eq_true (hb0 4 (by decide) (by decide)), of_eq_true (hb0 5 (by decide) (by decide)), of_eq_true (hb0 6 (by decide) (by decide)), of_eq_true (hb0 7 (by decide) (by decide)), of_eq_true (hb0 8 (by decide) (by decide)), of_eq_true (hb0 9 (by decide) (by decide)), of_eq_true (hb0 10 (by decide) (by decide)), of_eq_true (hb0 11 (by decide) (by decide)), of_eq_true (hb0 12 (by decide) (by decide)), of_eq_true (hb0 13 (by decide) (by decide)), of_eq_true (hb0 14 (by decide) (by decide)), of_eq_true (hb0 15 (by decide) (by decide)), of_eq_true (hb0 16 (by decide) (by decide)), of_eq_true (hb0 17 (by decide) (by decide)), of_eq_true (hb0 18 (by decide) (by decide)), of_eq_true (hb0 19 (by decide) (by decide)), of_eq_true (hb0 20 (by decide) (by decide)), of_eq_true (hb0 21 (by decide) (by decide)), of_eq_true (hb0 22 (by decide) (by decide)), of_eq_true (hb0 23 (by decide) (by decide)), of_eq_true (hb0 24 (by decide) (by decide)), of_eq_true (hb0 25 (by decide) (by decide)), of_eq_true (hb0 26 (by decide) (by decide)), of_eq_true (hb0 27 (by decide) (by decide)), of_eq_true (hb0 28 (by decide) (by decide)), of_eq_true (hb0 29 (by decide) (by decide)), of_eq_true (hb0 30 (by decide) (by decide)), of_eq_true (hb0 31 (by decide) (by decide)), of_eq_true (hb0 32 (by decide) (by decide)), of_eq_true (hb0 33 (by decide) (by decide)), of_eq_true (hb0 34 (by decide) (by decide)), of_eq_true (hb0 35 (by decide) (by decide)), of_eq_true (hb0 36 (by decide) (by decide)), of_eq_true (hb0 37 (by decide) (by decide)), of_eq_true (hb0 38 (by decide) (by decide)), of_eq_true (hb0 39 (by decide) (by decide)), of_eq_true (hb0 40 (by decide) (by decide)), of_eq_true (hb0 41 (by decide) (by decide)), of_eq_true (hb0 42 (by decide) (by decide)), of_eq_true (hb0 43 (by decide) (by decide)), of_eq_true (hb0 44 (by decide) (by decide)), of_eq_true (hb0 45 (by decide) (by decide)), of_eq_true (hb0 46 (by decide) (by decide)), of_eq_true (hb0 47 (by decide) (by decide)), of_eq_true (hb0 48 (by decide) (by decide)), of_eq_true (hb0 49 (by decide) (by decide)), of_eq_true (hb0 50 (by decide) (by decide)), of_eq_true (hb0 51 (by decide) (by decide)), of_eq_true (hb0 52 (by decide) (by decide)), of_eq_true (hb0 53 (by decide) (by decide)), of_eq_true (hb0 54 (by decide) (by decide)), of_eq_true (hb0 55 (by decide) (by decide)), of_eq_true (hb0 56 (by decide) (by decide)), of_eq_true (hb0 57 (by decide) (by decide)), of_eq_true (hb0 58 (by decide) (by decide)), of_eq_true (hb0 59 (by decide) (by decide)), of_eq_true (hb0 60 (by decide) (by decide)), of_eq_true (hb0 61 (by decide) (by decide)), of_eq_true (hb0 62 (by decide) (by decide)), of_eq_true (hb0 63 (by decide) (by decide)), of_eq_true (hb0 64 (by decide) (by decide)), of_eq_true (hb0 65 (by decide) (by decide)), of_eq_true (hb0 66 (by decide) (by decide)), of_eq_true (hb0 67 (by decide) (by decide)), of_eq_true (hb0 68 (by decide) (by decide)), of_eq_true (hb0 69 (by decide) (by decide)), of_eq_true (hb0 70 (by decide) (by decide)), of_eq_true (hb0 71 (by decide) (by decide)), of_eq_true (hb0 72 (by decide) (by decide)), of_eq_true (hb0 73 (by decide) (by decide)), of_eq_true (hb0 74 (by decide) (by decide)), of_eq_true (hb0 75 (by decide) (by decide)), of_eq_true (hb0 76 (by decide) (by decide)), of_eq_true (hb0 77 (by decide) (by decide)), of_eq_true (hb0 78 (by decide) (by decide)), of_eq_true (hb0 79 (by decide) (by decide)), of_eq_true (hb0 80 (by decide) (by decide)), of_eq_true (hb0 81 (by decide) (by decide)), of_eq_true (hb0 82 (by decide) (by decide)), of_eq_true (hb0 83 (by decide) (by decide)), of_eq_true (hb0 84 (by decide) (by decide)), of_eq_true (hb0 85 (by decide) (by decide)), of_eq_true (hb0 86 (by decide) (by decide)), of_eq_true (hb0 87 (by decide) (by decide)), of_eq_true (hb0 88 (by decide) (by decide)), of_eq_true (hb0 89 (by decide) (by decide)), of_eq_true (hb0 90 (by decide) (by decide)), of_eq_true (hb0 91 (by decide) (by decide)), of_eq_true (hb0 92 (by decide) (by decide)), of_eq_true (hb0 93 (by decide) (by decide)), of_eq_true (hb0 94 (by decide) (by decide)), of_eq_true (hb0 95 (by decide) (by decide)), of_eq_true (hb0 96 (by decide) (by decide)), of_eq_true (hb0 97 (by decide) (by decide)), of_eq_true (hb0 98 (by decide) (by decide)), of_eq_true (hb0 99 (by decide) (by decide)), of_eq_true (hb0 100 (by decide) (by decide)), of_eq_true (hb0 101 (by decide) (by decide)), of_eq_true (hb0 102 (by decide) (by decide)), of_eq_true (hb0 103 (by decide) (by decide)), of_eq_true (hb0 104 (by decide) (by decide)), of_eq_true (hb0 105 (by decide) (by decide)), of_eq_true (hb0 106 (by decide) (by decide)), of_eq_true (hb0 107 (by decide) (by decide)), of_eq_true (hb0 108 (by decide) (by decide)), of_eq_true (hb0 109 (by decide) (by decide)), of_eq_true (hb0 110 (by decide) (by decide))⟩
end Go.Proofs.YtcfkieacdjcaoaaGreat.Tab
