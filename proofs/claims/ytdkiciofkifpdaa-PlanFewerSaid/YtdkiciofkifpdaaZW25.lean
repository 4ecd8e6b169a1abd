/-
  A plan without one of its routes: that it may be; what is left of the routes' box.
-/
import Derived.Test.YtdkiciofkifpdaaZW11
namespace Go.Proofs.Ytdkiciofkifpdaa.Pln
set_option linter.unusedVariables false
set_option linter.unusedSimpArgs false
open Go Go.VS Tab
set_option maxHeartbeats 4000000
theorem few_sub {α : Type} (l : List α) (n : Nat) : (l.take n ++ l.drop (n + 1)).Sublist l := by
  rw [← List.eraseIdx_eq_take_drop_succ]; exact List.eraseIdx_sublist ..
def fewP (p : Pl) (n : Nat) : Pl := ⟨p.ver, p.par, p.secs, p.pts, p.sgs, p.rts.take n ++ p.rts.drop (n + 1)⟩
theorem chunk_flat {s : Nat} : ∀ {l : List (List AV)} (n : Nat), (∀ r, r ∈ l → r.length = s) → n ≤ l.length → chunk s n l.flatten = l.take n
  | _, 0, _, _ => by simp [chunk]
  | [], n + 1, _, h => by simp at h
  | r :: l, n + 1, hl, h => by
    have hr := hl r (List.mem_cons_self ..)
    simp only [chunk, List.flatten_cons, List.take_succ_cons]
    rw [List.take_left' hr, List.drop_left' hr, chunk_flat n (fun q hq => hl q (List.mem_cons_of_mem _ hq)) (by simpa using h)]
theorem flat_drop {s : Nat} : ∀ {l : List (List AV)} (n : Nat), (∀ r, r ∈ l → r.length = s) → n ≤ l.length → l.flatten.drop (n * s) = (l.drop n).flatten
  | _, 0, _, _ => by simp
  | [], n + 1, _, h => by simp at h
  | r :: l, n + 1, hl, h => by
    have hr := hl r (List.mem_cons_self ..)
    rw [List.flatten_cons, List.drop_succ_cons, Nat.succ_mul, Nat.add_comm, ← List.drop_drop, List.drop_left' hr, flat_drop n (fun q hq => hl q (List.mem_cons_of_mem _ hq)) (by simpa using h)]
theorem rts_rows (l : List Rt) : ∀ r, r ∈ l.map rtC → r.length = 7 := fun r hr => by
  obtain ⟨x, _, rfl⟩ := List.mem_map.1 hr; rfl
theorem few_chunks (p : Pl) {n : Nat} (h : n < p.rts.length) : chunk 7 n (p.rts.map rtC).flatten ++ chunk 7 (p.rts.length - (n + 1)) ((p.rts.map rtC).flatten.drop ((n + 1) * 7)) = (fewP p n).rts.map rtC := by
  rw [chunk_flat n (rts_rows _) (by simp; omega), flat_drop (n + 1) (rts_rows _) (by simp; omega), ← List.map_drop, chunk_flat _ (rts_rows _) (by simp), List.take_of_length_le (l := (p.rts.drop (n + 1)).map rtC) (by simp), ← List.map_take, ← List.map_append]
  rfl
end Go.Proofs.Ytdkiciofkifpdaa.Pln
