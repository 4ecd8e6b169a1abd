/- The layer of abstract values, joined: PR. -/
import Derived.Test.YtjgbbjooeibppaaZVsBits
section
namespace Go.Proofs.Ytjgbbjooeibppaa.Pln
set_option linter.unusedVariables false
set_option linter.unusedSimpArgs false
open Go Go.VS
set_option maxHeartbeats 1000000
theorem Xg {α β : Type} (f : α → β) (l : List α) (i : Nat) (d : β) (h : i < l.length) : (l.map f).getD i d = f l[i] := by
 simp [List.getD_eq_getElem?_getD, h]
theorem Ds {α β : Type} (g : α → β) (l : List α) (i : Nat) (h : i < l.length) : (l.take i).map g ++ [g l[i]] = (l.take (i + 1)).map g := by
 rw [List.take_succ_eq_append_getElem h, List.map_append]; rfl
theorem Z8 {α : Type} {l : List α} {i j : Nat} (hj : j < i) (hi : j < l.length) : l[j] ∈ l.take i := by
 rw [List.mem_take_iff_getElem]
 exact ⟨j, by omega, rfl⟩
structure Sec where
 id : Int
 pt : Int
 ends : List (Int × Int)
structure Rt where
 id : Int
 entry : Int
 ex : Int
 path : List Int
 over : List Int
 flanks : List (Int × Int)
 timer : Int
structure Pl where
 ver : Int
 par : Int
 secs : List Sec
 pts : List (Int × Int)
 sgs : List (Int × Int × Int)
 rts : List Rt
def Ym (n : Int) : List AV := [i64 n]
def jnC (j : Int × Int) : List AV := [i64 j.1, i64 j.2]
def sgC (g : Int × Int × Int) : List AV := [i64 g.1, i64 g.2.1, i64 g.2.2]
def Y6 (s : Sec) : List AV := [i64 s.id, i64 s.pt, .sl 2 (s.ends.map jnC) .sh]
def rtC (r : Rt) : List AV := [i64 r.id, i64 r.entry, i64 r.ex, .sl 1 (r.path.map Ym) .sh, .sl 1 (r.over.map Ym) .sh, .sl 2 (r.flanks.map jnC) .sh, i64 r.timer]
def plC (p : Pl) : List AV := [i64 p.ver, i64 p.par, .sl 3 (p.secs.map Y6) .sh, .sl 2 (p.pts.map jnC) .sh, .sl 3 (p.sgs.map sgC) .sh, .sl 7 (p.rts.map rtC) .sh]
abbrev X62 (l : List Int) : AV := .sl 1 (l.map Ym) .sh
abbrev P9 (l : List Sec) : AV := .sl 3 (l.map Y6) .sh
def Qh (s : Sec) : AV := .agg (Y6 s)
def rtA (r : Rt) : AV := .agg (rtC r)
def plA (p : Pl) : AV := .agg (plC p)
theorem X0b (s : Sec) : pick true 3 (Y6 s) = some (Qh s) := rfl
def Vy (l : List (Int × Int × Int)) (n : Int) : Option (Int × Int × Int) := l.find? fun x => x.1 == n
end Go.Proofs.Ytjgbbjooeibppaa.Pln
end
