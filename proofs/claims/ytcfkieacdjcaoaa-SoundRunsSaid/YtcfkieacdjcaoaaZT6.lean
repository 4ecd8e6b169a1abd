/-
  A train on a sound route's way, told plainly.
-/
import Derived.Test.YtcfkieacdjcaoaaZT4
import Derived.Test.YtcfkieacdjcaoaaZU5
namespace Go.Proofs.Ytcfkieacdjcaoaa.Pln
set_option linter.unusedVariables false
set_option linter.unusedSimpArgs false
open Go Go.VS Tab
set_option maxHeartbeats 4000000
theorem lie_signs {p : Pl} {r : Rt} {W : Wy} {O : List (Int × Int)} (g : Gone p r W O) {i : Nat} (hi : i < (allL r).length) (hk : i + 1 = r.path.length ∨ i + 1 ≠ (allL r).length) {s' : Sec} (hs : getS p.secs (allL r)[i] = some s') :
    (s'.pt ≠ 0 → 0 < lieL W.asks s'.pt i) ∧ (s'.pt = 0 → lieL W.asks s'.pt i = 0) := by
  have hl := run_keep g.not (i + 1) (by omega)
  obtain ⟨s, e, a, b, c, d, q, x⟩ := step_thr hl hk
  have gd : (allL r).getD i 0 = (allL r)[i] := by rw [List.getD_eq_getElem?_getD, List.getElem?_eq_getElem hi]; rfl
  have hlie := lie_at g.may (n := (allL r).length) (by omega) a (lie := thruL s (runW p r i).inn.2 e) (fun h => lie_pos h d) (fun h => lie_zero h) (by rw [q]; rfl) _ (flk_pos g)
  rw [← g.asks] at hlie
  rw [gd] at a
  rw [hs] at a
  obtain rfl : s' = s := by simpa using a
  rw [hlie]
  exact ⟨fun h => lie_pos h d, fun h => lie_zero h⟩
theorem lookF_all {l : List (Int × Int)} {k v : Int} (h1 : ∀ x, x ∈ l → x.1 = k → x.2 = v) (h2 : ∃ x, x ∈ l ∧ x.1 = k) : lookF l k = v := by
  have key : ∀ n, n ≤ l.length → lookF (l.take n) k = v ∨ ∀ x, x ∈ l.take n → x.1 ≠ k := by
    intro n
    induction n with
    | zero => intro _; exact .inr fun x hx => by simp at hx
    | succ n ih =>
      intro hn
      rw [List.take_succ_eq_append_getElem (by omega), lookF_snoc]
      by_cases e : (l[n]'(by omega)).1 = k
      · rw [if_pos e]; exact .inl (h1 _ (List.getElem_mem _) e)
      · rw [if_neg e]
        rcases ih (by omega) with h | h
        · exact .inl h
        · refine .inr fun x hx => ?_
          rw [List.mem_append] at hx
          rcases hx with hx | hx
          · exact h x hx
          · rw [List.mem_singleton.1 hx]; exact e
  have := key l.length (Nat.le_refl _)
  rw [List.take_length] at this
  rcases this with h | h
  · exact h
  · obtain ⟨x, hx, e⟩ := h2
    exact absurd e (h x hx)
def askL (l : List (Int × Int × Int)) : List (Int × Int) := l.map fun a => (a.1, a.2.1)
theorem once_eq {l : List (Int × Int × Int)} (h : onceB l = true) {a b : Int × Int × Int} (ha : a ∈ l) (hb : b ∈ l) (e : a.1 = b.1) : a = b := by
  obtain ⟨i, hi, rfl⟩ := List.getElem_of_mem ha
  obtain ⟨j, hj, rfl⟩ := List.getElem_of_mem hb
  have key : ∀ i j (hi : i < l.length) (hj : j < l.length), i < j → l[i].1 = l[j].1 → False := fun i j hi hj hij e => by
    unfold onceB at h
    have := allP_iff.1 h j hj
    unfold okA at this
    rw [Bool.not_eq_true', List.any_eq_false] at this
    exact this _ (mem_take_of hij hi) (by simpa using e)
  by_cases h1 : i < j
  · exact (key i j hi hj h1 e).elim
  · by_cases h2 : j < i
    · exact (key j i hj hi h2 e.symm).elim
    · obtain rfl : i = j := by omega
      rfl
theorem look_once {l : List (Int × Int × Int)} (h : onceB l = true) {a : Int × Int × Int} (ha : a ∈ l) : lookF (askL l) a.1 = a.2.1 := by
  refine lookF_all (fun x hx e => ?_) ⟨(a.1, a.2.1), List.mem_map.2 ⟨a, ha, rfl⟩, rfl⟩
  obtain ⟨b, hb, rfl⟩ := List.mem_map.1 hx
  rw [once_eq h hb ha e]
theorem look_free {l : List (Int × Int × Int)} (h : onceB l = true) {k : Nat} (hk : k < l.length) : lookF (askL (l.take k)) l[k].1 = 0 := by
  by_cases hz : lookF (askL (l.take k)) l[k].1 = 0
  · exact hz
  · exfalso
    have hm := lookF_mem hz
    obtain ⟨b, hb, e⟩ := List.mem_map.1 hm
    unfold onceB at h
    have := allP_iff.1 h k hk
    unfold okA at this
    rw [Bool.not_eq_true', List.any_eq_false] at this
    exact this b hb (by simpa using congrArg Prod.fst e)
theorem lieL_look {l : List (Int × Int × Int)} (h : onceB l = true) {pt at' : Int} (hz : lieL l pt at' ≠ 0) : lookF (askL l) pt = lieL l pt at' := by
  unfold lieL at hz ⊢
  split
  · rename_i a ha
    have hm := List.mem_of_find?_eq_some ha
    have hp := List.find?_some ha
    simp only [Bool.and_eq_true, beq_iff_eq] at hp
    rw [← hp.1]
    exact look_once h hm
  · rename_i ha
    rw [ha] at hz; exact absurd rfl hz
def lieX (l : List (Int × Int × Int)) (s : Sec) : Int := if s.pt > 0 then lookF (askL l) s.pt else 0
theorem stands_of {p : Pl} {r : Rt} {O : List (Int × Int)} (hc : clearB p r O = true) {i : Nat} (hi : i < r.path.length) {sc e : Int} (hO : O.getD i (0, 0) = (sc, e)) :
    atF p.sgs sc e = 0 ∨ (i + 1 = r.path.length ∧ atF p.sgs sc e = r.ex) := by
  unfold atF
  cases hf : p.sgs.find? (fun g => g.2.1 == sc && g.2.2 == e) with
  | none => exact .inl rfl
  | some x =>
    have hm := List.mem_of_find?_eq_some hf
    have hp := List.find?_some hf
    unfold clearB at hc
    rw [List.all_eq_true] at hc
    have h1 := hc i (List.mem_range.2 hi)
    rw [List.all_eq_true] at h1
    have h2 := h1 x hm
    unfold clrS at h2
    rw [hO] at h2
    simp only [Bool.and_eq_true, beq_iff_eq] at hp
    simp only [hp.1, hp.2, beq_self_eq_true, Bool.true_and, Bool.not_eq_true', Bool.or_eq_false_iff, decide_eq_false_iff_not] at h2
    refine .inr ⟨by omega, ?_⟩
    simpa using h2.2
theorem round_run {p : Pl} {r : Rt} {W : Wy} {O : List (Int × Int)} (g : Gone p r W O) (ho : onceB W.asks = true) (hc : clearB p r O = true) {i : Nat} (hi : i < r.path.length) : ∃ (s : Sec) (e : Nat), getS p.secs r.path[i] = some s ∧ (runW p r i).inn.1 = r.path[i] ∧
    0 ≤ s.pt ∧ s.pt < 100 ∧ s.id = r.path[i] ∧ outL s (runW p r i).inn.2 (lieX W.asks s) = e ∧ outE s (runW p r i).inn.2 (lieX W.asks s) = 0 ∧ nextD p.secs r.path[i] e = (runW p r (i + 1)).inn ∧ nextE p.secs r.path[i] e = 0 ∧ stE p r.path[i] e = 0 ∧
    (i + 1 < r.path.length → stL p r.path[i] e = 0) ∧ (i + 1 = r.path.length → stL p r.path[i] e = r.ex ∧ (r.ex = 0 → (runW p r (i + 1)).inn = (0, 0))) := by
  have hal : (allL r).length = r.path.length + r.over.length := by unfold allL; exact List.length_append
  have hi' : i < (allL r).length := by omega
  have hA : (allL r)[i] = r.path[i] := by unfold allL; exact List.getElem_append_left hi
  have hk : i + 1 = r.path.length ∨ i + 1 ≠ (allL r).length := by omega
  obtain ⟨s, e, a, b, o1, o2, ⟨hO1, hO2⟩, n1, n2, st, x⟩ := round_thr g hi' hk
  obtain ⟨l1, l2⟩ := lie_signs g hi' hk a
  rw [hA] at a b hO2 n1 n2 st x
  obtain ⟨m1, m2⟩ := getS_some a
  have hsh := shaped_iff.1 (mayS_sec (may_parts g.may).2.1 m1).2
  have hlie : lieL W.asks s.pt i = lieX W.asks s := by
    unfold lieX
    by_cases h0 : s.pt = 0
    · rw [l2 h0, if_neg (by omega)]
    · rw [if_pos (by omega)]
      exact (lieL_look ho (by have := l1 h0; omega)).symm
  rw [hlie] at o1 o2
  have hgd : O.getD i (0, 0) = (r.path[i], (e : Int)) := by simp [List.getD_eq_getElem?_getD, hO1, hO2]
  have hst := stands_of hc hi hgd
  have hsl : stL p r.path[i] e = atF p.sgs r.path[i] e := by unfold stL; rw [if_pos st]
  refine ⟨s, e, a, b, by omega, by omega, m2, o1, o2, n1, n2, st, fun h => ?_, fun h => ?_⟩
  · rw [hsl]
    rcases hst with h' | h'
    · exact h'
    · omega
  · obtain ⟨x1, x2⟩ := x h
    refine ⟨?_, x1⟩
    by_cases hx : r.ex = 0
    · rw [hsl, hx]
      rcases hst with h' | h'
      · exact h'
      · rw [h'.2, hx]
    · exact x2 hx
end Go.Proofs.Ytcfkieacdjcaoaa.Pln
