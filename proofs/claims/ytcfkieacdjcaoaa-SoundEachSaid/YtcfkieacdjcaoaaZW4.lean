/-
  A walk along a route, told plainly: what it comes to.
-/
import Derived.Test.YtcfkieacdjcaoaaZW3
import Derived.Test.YtcfkieacdjcaoaaZPJ
namespace Go.Proofs.Ytcfkieacdjcaoaa.Pln
set_option linter.unusedVariables false
set_option linter.unusedSimpArgs false
open Go Go.VS Tab
set_option maxHeartbeats 4000000
structure Wy where
  path : List Int
  over : List Int
  asks : List (Int × Int × Int)
  near : Int
def wyC (w : Wy) : List AV := [.sl 1 (w.path.map intC) .sh, .sl 1 (w.over.map intC) .sh, .sl 3 (w.asks.map sgC) .sh, i64 w.near]
def wyA (w : Wy) : AV := .agg (wyC w)
def noWy : Wy := ⟨[], [], [], 0⟩
def inAt (l : List Sec) (g : Int × Int × Int) : Int × Int := l.foldl (fun o s => if (s.id == g.2.1) = true then s.ends.getD g.2.2.toNat (0, 0) else o) (0, 0)
theorem inAt_nil (g : Int × Int × Int) : inAt [] g = (0, 0) := rfl
theorem inAt_succ {l : List Sec} {i : Nat} (hi : i < l.length) (g : Int × Int × Int) : inAt (l.take (i + 1)) g = if (l[i].id == g.2.1) = true then l[i].ends.getD g.2.2.toNat (0, 0) else inAt (l.take i) g := by
  unfold inAt
  rw [List.take_succ_eq_append_getElem hi, List.foldl_append]; rfl
def stepW (p : Pl) (r : Rt) (w : Wk) (i : Nat) : Wk :=
  if i + 1 = r.path.length then (if r.ex = 0 then thrW p w ((r.path ++ r.over).getD i 0) i (fun _ j => j == (0, 0)) else thrW p w ((r.path ++ r.over).getD i 0) i (fun e _ => (r.path ++ r.over).getD i 0 == (lastG p.sgs r.ex).2.1 && e == (lastG p.sgs r.ex).2.2))
  else if i + 1 = (r.path ++ r.over).length then stayW p w ((r.path ++ r.over).getD i 0) i
  else thrW p w ((r.path ++ r.over).getD i 0) i (fun _ j => j.1 == (r.path ++ r.over).getD (i + 1) 0)
def runW (p : Pl) (r : Rt) : Nat → Wk
  | 0 => ⟨inAt p.secs (lastG p.sgs r.entry), [], [], false⟩
  | i + 1 => stepW p r (runW p r i) i
def flkW (w : Wk) (l : List (Int × Int)) : Wk := l.foldl (fun w f => askW w f.1 f.2 (-1)) w
theorem flkW_succ {l : List (Int × Int)} {i : Nat} (hi : i < l.length) (w : Wk) : flkW w (l.take (i + 1)) = askW (flkW w (l.take i)) l[i].1 l[i].2 (-1) := by
  unfold flkW
  rw [List.take_succ_eq_append_getElem hi, List.foldl_append]; rfl
def endW (p : Pl) (r : Rt) : Wk := runW p r (r.path ++ r.over).length
def folW (p : Pl) (r : Rt) : Wy := if (endW p r).lost then noWy else ⟨r.path, r.over, (flkW (endW p r) r.flanks).asks, (lastG p.sgs r.entry).2.1⟩
def folO (p : Pl) (r : Rt) : List (Int × Int) := if (endW p r).lost then [] else (endW p r).outs
def folE (p : Pl) (r : Rt) : Int := if (endW p r).lost then 90 else 0
theorem askW_len (w : Wk) (a b c : Int) : (askW w a b c).asks.length ≤ w.asks.length + 1 ∧ (askW w a b c).outs = w.outs ∧ (askW w a b c).lost = w.lost := by
  unfold askW
  split
  · exact ⟨by simp, rfl, rfl⟩
  · exact ⟨by omega, rfl, rfl⟩
theorem thrW_len (p : Pl) (w : Wk) (id at' : Int) (f : Int → Int × Int → Bool) : (thrW p w id at' f).asks.length ≤ w.asks.length + 1 ∧ (thrW p w id at' f).outs.length ≤ w.outs.length + 1 := by
  obtain ⟨s, l, e⟩ := secW_keeps p w id
  unfold thrW
  rw [e]
  dsimp only
  unfold thrF
  split
  · rename_i e' _
    have := askW_len ⟨w.inn, w.asks, w.outs, l⟩ s.pt (thruL s w.inn.2 e') at'
    unfold leave
    dsimp only at this ⊢
    rw [List.length_append, this.2.1]
    exact ⟨this.1, by simp⟩
  · exact ⟨by dsimp only; omega, by dsimp only; omega⟩
theorem stayW_len (p : Pl) (w : Wk) (id at' : Int) : (stayW p w id at').asks.length ≤ w.asks.length + 1 ∧ (stayW p w id at').outs.length ≤ w.outs.length + 1 := by
  obtain ⟨s, l, e⟩ := secW_keeps p w id
  unfold stayW
  rw [e]
  dsimp only
  split
  · have := askW_len ⟨w.inn, w.asks, w.outs, l⟩ s.pt w.inn.2 at'
    dsimp only at this ⊢
    rw [this.2.1]
    exact ⟨this.1, by omega⟩
  · exact ⟨by dsimp only; omega, by dsimp only; omega⟩
theorem stepW_len (p : Pl) (r : Rt) (w : Wk) (i : Nat) : (stepW p r w i).asks.length ≤ w.asks.length + 1 ∧ (stepW p r w i).outs.length ≤ w.outs.length + 1 := by
  unfold stepW
  split
  · split
    · exact thrW_len _ _ _ _ _
    · exact thrW_len _ _ _ _ _
  · split
    · exact stayW_len _ _ _ _
    · exact thrW_len _ _ _ _ _
theorem runW_len (p : Pl) (r : Rt) : ∀ i, (runW p r i).asks.length ≤ i ∧ (runW p r i).outs.length ≤ i
  | 0 => ⟨Nat.le_refl _, Nat.le_refl _⟩
  | i + 1 => by
    have := runW_len p r i
    have h := stepW_len p r (runW p r i) i
    show (stepW p r (runW p r i) i).asks.length ≤ _ ∧ _
    exact ⟨by omega, by show (stepW p r (runW p r i) i).outs.length ≤ _; omega⟩
theorem flkW_len (w : Wk) : ∀ (l : List (Int × Int)), (flkW w l).asks.length ≤ w.asks.length + l.length ∧ (flkW w l).outs = w.outs ∧ (flkW w l).lost = w.lost := by
  intro l
  induction l generalizing w with
  | nil => exact ⟨Nat.le_refl _, rfl, rfl⟩
  | cons f l ih =>
    have h := ih (askW w f.1 f.2 (-1))
    have h2 := askW_len w f.1 f.2 (-1)
    show (flkW (askW w f.1 f.2 (-1)) l).asks.length ≤ _ ∧ (flkW (askW w f.1 f.2 (-1)) l).outs = _ ∧ (flkW (askW w f.1 f.2 (-1)) l).lost = _
    exact ⟨by simp only [List.length_cons]; omega, h.2.1.trans h2.2.1, h.2.2.trans h2.2.2⟩
theorem secW_small {p : Pl} (hs : Sm p) (w : Wk) (id : Int) : (secW p w id).1.ends.length ≤ 20 := by
  unfold secW
  split
  · rename_i s h
    split
    · exact Nat.zero_le _
    · exact hs.ends _ (List.mem_of_find?_eq_some h)
  · exact Nat.zero_le _
end Go.Proofs.Ytcfkieacdjcaoaa.Pln
