/-
  Plans that may be: their elements' places, told plainly.
-/
import Derived.Test.YtcfkieacdjcaoaaZP23
import Derived.Test.YtcfkieacdjcaoaaZP30
namespace Go.Proofs.Ytcfkieacdjcaoaa.Pln
set_option linter.unusedVariables false
set_option linter.unusedSimpArgs false
open Go Go.VS Tab
set_option maxHeartbeats 2000000
theorem greatS_no {l : List Sec} (h : greatS l = false) : l.length ≤ 40 ∧ ∀ s, s ∈ l → s.ends.length ≤ 20 := by
  unfold greatS at h
  rw [Bool.or_eq_false_iff, decide_eq_false_iff_not, List.any_eq_false] at h
  have h1 : l.length ≤ 40 := by omega
  refine ⟨h1, fun s hs => ?_⟩
  have := h.1 s (by rw [List.take_of_length_le h1]; exact hs)
  simpa using this
theorem sm_of {p : Pl} (h : greatP p = false) : Sm p := by
  unfold greatP at h
  simp only [Bool.or_eq_false_iff, decide_eq_false_iff_not] at h
  obtain ⟨⟨⟨⟨h1, h2⟩, h3⟩, h4⟩, h5⟩ := h
  obtain ⟨a, b⟩ := greatS_no h2
  refine ⟨a, b, by omega, by omega, by omega, fun r hr => ?_⟩
  rw [List.any_eq_false] at h1
  have := h1 r (by rw [List.take_of_length_le (by omega)]; exact hr)
  simp [bigR] at this
  omega
theorem sec_idx {l : List Sec} (h : mayS l = true) {i j : Nat} (hi : i < l.length) (hj : j < l.length) (e : l[i].pt = l[j].pt) (h0 : l[i].pt ≠ 0) : i = j := by
  have hr := mayS_rising h
  have := pt_inj h (List.getElem_mem hi) (List.getElem_mem hj) e h0
  rcases Nat.lt_trichotomy i j with h1 | h1 | h1
  · have h2 := hr j hj i h1; rw [this] at h2; omega
  · exact h1
  · have h2 := hr i hi j h1; rw [this] at h2; omega
def cnA (pre : List Sec) (n : Int) : Nat := pre.countP fun s => s.pt == n
theorem cnA_succ {l : List Sec} {i : Nat} (hi : i < l.length) (n : Int) : cnA (l.take (i + 1)) n = cnA (l.take i) n + if l[i].pt == n then 1 else 0 := by
  unfold cnA
  rw [List.take_succ_eq_append_getElem hi, List.countP_append, List.countP_singleton]
theorem cnA_nil (n : Int) : ((cnA [] n : Nat) : Int) = 0 := rfl
theorem cnA_le (l : List Sec) (n : Int) : cnA l n ≤ l.length := List.countP_le_length
theorem cnA_one {l : List Sec} (h : mayS l = true) {k : Nat} (hk : k < l.length) {n : Int} (hn : l[k].pt = n) (h0 : n ≠ 0) : ∀ i, i ≤ l.length → cnA (l.take i) n = if k < i then 1 else 0 := by
  intro i
  induction i with
  | zero => intro _; simp [cnA]
  | succ i ih =>
    intro hi
    rw [cnA_succ (by omega), ih (by omega)]
    by_cases he : l[i].pt = n
    · have : i = k := sec_idx h (by omega) hk (by omega) (by omega)
      subst this
      simp [he]
    · have hik : i ≠ k := fun e => he (by subst e; exact hn)
      have e1 : (if (l[i].pt == n) = true then 1 else 0 : Nat) = 0 := if_neg (by simpa using he)
      rw [e1]
      by_cases hlt : k < i
      · rw [if_pos hlt, if_pos (by omega)]
      · rw [if_neg hlt, if_neg (by omega)]
theorem pt_at {p : Pl} (h : mayP p = true) {i : Nat} (hi : i < p.pts.length) : cnA p.secs p.pts[i].1 = 1 ∧ ∀ k (hk : k < p.secs.length), p.secs[k].pt = p.pts[i].1 → p.secs[k].id = p.pts[i].2 ∧ p.secs[k].ends.length = 3 := by
  obtain ⟨_, hmay, hpts, _⟩ := mayP_parts h
  unfold ptsOk at hpts
  simp only [Bool.and_eq_true] at hpts
  obtain ⟨⟨⟨h1, _⟩, _⟩, h4⟩ := hpts
  have hr := allP_iff.1 h1 i (by simpa using hi)
  simp only [rises, List.getElem_map, Bool.and_eq_true, numb_iff] at hr
  have ho := List.all_eq_true.1 h4 _ (List.getElem_mem hi)
  unfold okP at ho
  cases hg : getS p.secs p.pts[i].2 with
  | none => rw [hg] at ho; cases ho
  | some s =>
    rw [hg] at ho
    simp only [beq_iff_eq] at ho
    obtain ⟨hm, hid⟩ := getS_some hg
    have hsh := shaped_iff.1 (mayS_sec hmay hm).2
    obtain ⟨j, hj, rfl⟩ := List.getElem_of_mem hm
    refine ⟨?_, fun k hk hp => ?_⟩
    · have := cnA_one hmay hj ho (by omega) p.secs.length (Nat.le_refl _)
      rw [List.take_length, if_pos hj] at this
      exact this
    · have : k = j := sec_idx hmay hk hj (by omega) (by omega)
      subst this
      exact ⟨hid, by omega⟩
theorem findE_some {l : List Sec} (h : mayS l = true) {n : Int} {s : Sec} (hg : getS l n = some s) : findE l n = 0 ∧ findD l n = s := by
  unfold findE findD
  rw [h, hg]
  exact ⟨rfl, rfl⟩
theorem stE_zero {p : Pl} (h : mayP p = true) {n e : Int} {s : Sec} (hg : getS p.secs n = some s) (h0 : 0 ≤ e) (h1 : e < s.ends.length) : stE p n e = 0 := by
  obtain ⟨_, hmay, _⟩ := mayP_parts h
  obtain ⟨a, b⟩ := findE_some hmay hg
  unfold stE nextE
  rw [h, a, b, if_pos rfl, if_pos rfl, if_pos ⟨h0, h1⟩]
theorem stE_first {p : Pl} (h : mayP p = true) {n : Int} (hg : (getS p.secs n).isSome = true) : stE p n 0 = 0 := by
  obtain ⟨_, hmay, _⟩ := mayP_parts h
  obtain ⟨s, hs⟩ := Option.isSome_iff_exists.1 hg
  have hsh := shaped_iff.1 (mayS_sec hmay (getS_some hs).1).2
  exact stE_zero h hs (Int.le_refl _) (by omega)
theorem sg_at {p : Pl} (h : mayP p = true) {i : Nat} (hi : i < p.sgs.length) : stE p p.sgs[i].2.1 p.sgs[i].2.2 = 0 ∧ stL p p.sgs[i].2.1 p.sgs[i].2.2 = p.sgs[i].1 := by
  obtain ⟨_, hmay, _, hsg, _⟩ := mayP_parts h
  have hE : stE p p.sgs[i].2.1 p.sgs[i].2.2 = 0 := by
    have hq := hsg
    unfold sgsOk at hq
    rw [Bool.and_eq_true] at hq
    have h1 := allP_iff.1 hq.2 i hi
    unfold okG at h1
    rw [Bool.and_eq_true] at h1
    cases hg : getS p.secs p.sgs[i].2.1 with
    | none => rw [hg] at h1; simp at h1
    | some s =>
      rw [hg] at h1
      simp only [Bool.and_eq_true, decide_eq_true_eq] at h1
      exact stE_zero h hg h1.1.1 h1.1.2
  refine ⟨hE, ?_⟩
  unfold stL
  rw [if_pos hE]
  have : ∀ j, i < j → j ≤ p.sgs.length → atF (p.sgs.take j) p.sgs[i].2.1 p.sgs[i].2.2 = p.sgs[i].1 := by
    intro j
    induction j with
    | zero => intro h; omega
    | succ j ih =>
      intro hj hjl
      rw [atF_succ hsg (by omega)]
      by_cases he : j = i
      · subst he; rw [if_pos (by simp)]
      · rw [if_neg, ih (by omega) (by omega)]
        intro hm
        have hq := hsg
        unfold sgsOk at hq
        rw [Bool.and_eq_true] at hq
        have h1 := allP_iff.1 hq.2 j (by omega)
        unfold okG at h1
        rw [Bool.and_eq_true, List.all_eq_true] at h1
        have h2 := h1.2 p.sgs[i] (mem_take_of (by omega) hi)
        simp only [Bool.and_eq_true, beq_iff_eq] at hm
        have : p.sgs[i].2 = p.sgs[j].2 := Prod.ext (by omega) (by omega)
        simp [this] at h2
  have := this p.sgs.length hi (Nat.le_refl _)
  rwa [List.take_length] at this
theorem rt_at {p : Pl} (h : mayP p = true) {r : Rt} (hr : r ∈ p.rts) : ∃ en, getG p.sgs r.entry = some en ∧ 1 ≤ r.path.length ∧ ∀ k (hk : k < ([en.2.1] ++ r.path ++ r.over).length), (getS p.secs ([en.2.1] ++ r.path ++ r.over)[k]).isSome = true ∧ ∀ m (hm : m < k), ([en.2.1] ++ r.path ++ r.over)[m] ≠ ([en.2.1] ++ r.path ++ r.over)[k] := by
  obtain ⟨_, hmay, _, hsg, _, _, hrs⟩ := mayP_parts h
  have ho := hrs r hr
  unfold okR at ho
  cases hg : getG p.sgs r.entry with
  | none => rw [hg] at ho; cases ho
  | some en =>
    rw [hg] at ho
    simp only [Bool.and_eq_true, decide_eq_true_eq] at ho
    obtain ⟨⟨⟨⟨⟨⟨⟨⟨_, hp⟩, _⟩, _⟩, _⟩, _⟩, _⟩, hl⟩, _⟩ := ho
    refine ⟨en, rfl, hp, ?_⟩
    have hen := (sgs_sec hmay hsg (List.mem_of_find?_eq_some hg)).2.2
    have hcons : ∀ (x : Int) (a b : List Int), [x] ++ a ++ b = x :: (a ++ b) := fun x a b => rfl
    obtain ⟨L, hL⟩ : ∃ L, r.path ++ r.over = L := ⟨_, rfl⟩
    have hA : [en.2.1] ++ r.path ++ r.over = en.2.1 :: L := by rw [hcons, hL]
    rw [hL] at hl
    suffices ∀ A, A = en.2.1 :: L → ∀ k (hk : k < A.length), (getS p.secs A[k]).isSome = true ∧ ∀ m (hm : m < k), A[m] ≠ A[k] from this _ hA
    rintro A rfl k hk
    cases k with
    | zero => exact ⟨hen, fun m hm => absurd hm (Nat.not_lt_zero _)⟩
    | succ k =>
      have hk' : k < L.length := by simpa using hk
      have h1 := allP_iff.1 hl k hk'
      unfold okL at h1
      simp only [Bool.and_eq_true, Bool.not_eq_true', beq_eq_false_iff_ne, List.all_eq_true] at h1
      obtain ⟨⟨h2, h3⟩, h4⟩ := h1
      refine ⟨h2, fun m hm => ?_⟩
      cases m with
      | zero => exact Ne.symm h3
      | succ m =>
        have := h4 L[m] (mem_take_of (by omega) (by omega))
        simpa using this
end Go.Proofs.Ytcfkieacdjcaoaa.Pln
