/-
  A plan without one of its routes: that it may be; what is left of the routes' box.
-/
import Derived.Test.YtcfkieacdjcaoaaZW11
namespace Go.Proofs.Ytcfkieacdjcaoaa.Pln
set_option linter.unusedVariables false
set_option linter.unusedSimpArgs false
open Go Go.VS Tab
set_option maxHeartbeats 4000000
theorem few_sub {α : Type} (l : List α) (n : Nat) : (l.take n ++ l.drop (n + 1)).Sublist l := by
  rw [← List.eraseIdx_eq_take_drop_succ]; exact List.eraseIdx_sublist ..
def fewP (p : Pl) (n : Nat) : Pl := ⟨p.ver, p.par, p.secs, p.pts, p.sgs, p.rts.take n ++ p.rts.drop (n + 1)⟩
theorem few_mem {p : Pl} {n : Nat} {r : Rt} (h : r ∈ (fewP p n).rts) : r ∈ p.rts := (few_sub p.rts n).subset h
theorem few_len (p : Pl) (n : Nat) : (fewP p n).rts.length ≤ p.rts.length := (few_sub p.rts n).length_le
theorem few_may {p : Pl} (h : mayP p = true) (n : Nat) : mayP (fewP p n) = true := by
  obtain ⟨h1, h2, h3, h4, h5, h6, h7⟩ := may_parts h
  have e1 : headOk (fewP p n) = true := h1
  have e2 : mayS (fewP p n).secs = true := h2
  have e3 : ptsOk (fewP p n) = true := h3
  have e4 : sgsOk (fewP p n) = true := h4
  have e5 : allP rises ((fewP p n).rts.map Rt.id) = true := by
    rw [rises_eq, allP_pair] at h5 ⊢
    refine ⟨fun x hx => ?_, ?_⟩
    · obtain ⟨r, hr, rfl⟩ := List.mem_map.1 hx
      exact h5.1 _ (List.mem_map.2 ⟨r, few_mem hr, rfl⟩)
    · exact h5.2.sublist ((few_sub p.rts n).map Rt.id)
  have e6 : (fewP p n).rts.length ≤ 16 := Nat.le_trans (few_len p n) h6
  unfold mayP
  rw [e1, e2, e3, e4, e5, decide_eq_true e6]
  simp only [Bool.true_and, List.all_eq_true]
  exact fun r hr => h7 r (few_mem hr)
theorem few_sm {p : Pl} (hs : Sm p) (n : Nat) : Sm (fewP p n) := by
  obtain ⟨h1, h2, h3, h4, h5, h6⟩ := hs
  exact ⟨h1, h2, h3, h4, Nat.le_trans (few_len p n) h5, fun r hr => h6 r (few_mem hr)⟩
theorem chunk_flat {s : Nat} : ∀ {l : List (List AV)} (n : Nat), (∀ r, r ∈ l → r.length = s) → n ≤ l.length → chunk s n l.flatten = l.take n
  | _, 0, _, _ => by simp [chunk]
  | [], n + 1, _, h => by simp at h
  | r :: l, n + 1, hl, h => by
    have hr := hl r (List.mem_cons_self ..)
    simp only [chunk, List.flatten_cons, List.take_succ_cons]
    rw [List.take_left' hr, List.drop_left' hr, chunk_flat n (fun q hq => hl q (List.mem_cons_of_mem _ hq)) (by simpa using h)]
theorem flat_drop {s : Nat} : ∀ {l : List (List AV)} (n : Nat), (∀ r, r ∈ l → r.length = s) → n ≤ l.length → l.flatten.drop (n * s) = (l.drop n).flatten
  | _, 0, _, _ => by simp
  | [], n + 1, _, h => by simp at h
  | r :: l, n + 1, hl, h => by
    have hr := hl r (List.mem_cons_self ..)
    rw [List.flatten_cons, List.drop_succ_cons, Nat.succ_mul, Nat.add_comm, ← List.drop_drop, List.drop_left' hr, flat_drop n (fun q hq => hl q (List.mem_cons_of_mem _ hq)) (by simpa using h)]
theorem rts_rows (l : List Rt) : ∀ r, r ∈ l.map rtC → r.length = 7 := fun r hr => by
  obtain ⟨x, _, rfl⟩ := List.mem_map.1 hr; rfl
theorem few_chunks (p : Pl) {n : Nat} (h : n < p.rts.length) : chunk 7 n (p.rts.map rtC).flatten ++ chunk 7 (p.rts.length - (n + 1)) ((p.rts.map rtC).flatten.drop ((n + 1) * 7)) = (fewP p n).rts.map rtC := by
  rw [chunk_flat n (rts_rows _) (by simp; omega), flat_drop (n + 1) (rts_rows _) (by simp; omega), ← List.map_drop, chunk_flat _ (rts_rows _) (by simp), List.take_of_length_le (l := (p.rts.drop (n + 1)).map rtC) (by simp), ← List.map_take, ← List.map_append]
  rfl
end Go.Proofs.Ytcfkieacdjcaoaa.Pln
