/-
 Routes that may be, told by the program: their lists.
-/
import Derived.Test.YtgdhnngpfieloaaGreatZGA
import Derived.Test.YtgdhnngpfieloaaGreatZP19
namespace Go.Proofs.YtgdhnngpfieloaaGreat.Pln
set_option linter.unusedVariables false
set_option linter.unusedSimpArgs false
open Go Go.VS Tab
set_option maxHeartbeats 8000000
set_option maxRecDepth 4000
theorem X33 (p : Pl) (r : Rt) (hs : SmB p) (h20 : r.path.length ≤ 5000 ∧ r.over.length ≤ 5000 ∧ r.flanks.length ≤ 5000) (hmay : Uq p.secs = true) (hsg : Qu p = true) : Xr Tryz.prog 58 [plA p, rtA r, .agg (Uj p.secs)] [] (bool (okR p r)) [] := by
 obtain ⟨hp1, hp2, hp3⟩ := h20
 have hsl := hs.sgs
 have hpl := hs.pts
 have c1 := Kl p.sgs r.entry (by omega)
 have c2 := Kl p.sgs r.ex (by omega)
 cases hg : Vy p.sgs r.entry with
 | none =>
  exact Dl p r hs ⟨hp1, hp2, hp3⟩ hmay hsg (.inl hg)
 | some en =>
  rw [hg] at c1
  have hen : en ∈ p.sgs := List.mem_of_find?_eq_some hg
  obtain ⟨hn1, hn2, hn3⟩ := H2 hmay hsg hen
  obtain ⟨ne, hne⟩ := Int.eq_ofNat_of_zero_le (a := en.2.1) (by omega)
  have hn : ne < 100 := by omega
  have hn' : (ne : Int) < 100 := by omega
  have hn9 : ne ≤ 99 := by omega
  have hok := Rh hg
  rw [hne] at hok
  cases hh : Ma p r with
  | false => exact Dl p r hs ⟨hp1, hp2, hp3⟩ hmay hsg (.inr hh)
  | true =>
   rw [hh, Bool.true_and] at hok
   unfold Ma at hh
   simp only [Bool.and_eq_true, Bool.or_eq_true, decide_eq_true_eq, Bool.not_eq_true', Bool.and_eq_false_iff, decide_eq_false_iff_not] at hh
   obtain ⟨⟨⟨⟨⟨⟨⟨q1, q2⟩, q3⟩, q4⟩, q5⟩, q6⟩, q7⟩, q8⟩ := hh
   generalize hB : (Vy p.sgs r.ex).isSome = B at c2 q1
   generalize (Vy p.sgs r.ex).getD (0, 0, 0) = ex at c2
   have d1 : decide ((r.path.length : Int) < 1) = false := decide_eq_false (by omega)
   have d2 : decide ((r.path.length : Int) > 6) = false := decide_eq_false (by omega)
   have d3 : decide ((r.over.length : Int) > 2) = false := decide_eq_false (by omega)
   have d4 : decide ((r.flanks.length : Int) > 3) = false := decide_eq_false (by omega)
   have d5 : decide (r.timer < 1) = false := decide_eq_false (by omega)
   have d6 : decide (r.timer > 9) = false := decide_eq_false (by omega)
   refine Xc 8 Tryz.func58 rfl fun n out _ _ => ?_
   simp only [Tryz.ntmps58, List.length_cons, List.length_nil, List.length_map, List.length_replicate, Xf, Nat.reduceAdd, Nat.reduceSub, List.replicate, List.cons_append, List.nil_append]
   refine X9 fun K hK => Xn Xj [] ?_
   simp (maxSteps:=9^7) only [ss, X1, tab, simprocAttr, -List.reduceReplicate, plA, plC, rtA, rtC]
   (refine hK _ ?_; clear hK K)
   refine X9 fun K hK => Xn Xj [] ?_
   simp (maxSteps:=9^7) only [ss, X1, tab, simprocAttr, -List.reduceReplicate, sgA, sgC, plC, rtC]
   skip
   refine X3 c1 ?_
   simp (maxSteps:=9^7) only [ss, X1, tab, simprocAttr, -List.reduceReplicate, sgA, sgC, X0, Option.getD_some, Option.isSome_some, hne]
   (refine hK _ ?_; clear hK K)
   refine X9 fun K hK => Xn Xj [] ?_
   simp (maxSteps:=9^7) only [ss, X1, tab, simprocAttr, -List.reduceReplicate, sgA, sgC, plC, rtC]
   skip
   refine X3 c2 ?_
   simp (maxSteps:=9^7) only [ss, X1, tab, simprocAttr, -List.reduceReplicate, sgA, sgC, X0]
   (refine hK _ ?_; clear hK K)
   refine X9 fun K hK => ?_
   obtain ⟨LO, hLO⟩ : ∃ LO, LO = [some (Res.box 28 (plC p)), some (.box 44 (rtC r)), some (.box 103 (Uj p.secs)), some (.box 59 [i64 en.1, i64 (ne : Int), i64 en.2.2]), some (.box 59 (sgC ex)), none, none, none] := ⟨_, rfl⟩
   refine Wf [(6, .top), (36, .top), (37, .top), (38, .top), (39, .top), (40, .top), (41, .top), (42, .top), (43, .top), (44, .top), (45, .top), (46, .top), (47, .top), (48, .top), (49, .top), (50, .top), (51, .top), (52, .top), (53, .top), (54, .top), (55, .top), (56, .top), (57, .top), (58, .top), (59, .top), (60, .top), (61, .top), (62, .top), (63, .top), (64, .top), (65, .top), (66, .top), (67, .top), (68, .top), (69, .top), (70, .top), (71, .top), (72, .top), (73, .top), (74, .top), (75, .top), (76, .top), (77, .top), (78, .top), (79, .top), (80, .top), (81, .top), (82, .top), (83, .top), (84, .top), (85, .top)] LO out ?_ ?_
   rotate_left
   ·by_cases hx : r.ex = 0
    ·have x1 : (r.ex != 0) = false := by simp [hx]
     have x2 : (r.ex == 0) = true := by simp [hx]
     have x3 : decide ((r.over.length : Int) > 0) = false := by
      rcases q2 with h | h
      ·exact absurd hx h
      ·have : r.over = [] := by simpa using h
       simp [this]
     repeat' (first | (with_reducible first | refine Vk fun K hK => ?_ | refine V0 ?_ | refine Vs ?_) | ((with_reducible refine gE ?_); simp (maxSteps:=9^7) only [ss, X1, tab, simprocAttr, -List.reduceReplicate, hLO, plC, rtC, sgC, List.length_map, x1, x2, x3, d1, d2, d3, d4, d5, d6]) | (refine hK _ ?_; clear hK K) | refine Vf rfl ?_ | (refine Or.inl ⟨rfl, ?_⟩; refine X2 ?_ ?_ rfl rfl rfl rfl <;> simp only [X4, sl, hLO, plC, rtC, sgC, List.length_map, x1, x2, x3, d1, d2, d3, d4, d5, d6]))
    ·have x1 : (r.ex != 0) = true := by simpa using hx
     have x2 : (r.ex == 0) = false := by simpa using hx
     obtain ⟨x4, x5⟩ : B = true ∧ (r.ex == r.entry) = false := by
      rcases q1 with h | h
      ·exact absurd h hx
      ·exact ⟨h.1, h.2⟩
     repeat' (first | (with_reducible first | refine Vk fun K hK => ?_ | refine V0 ?_ | refine Vs ?_) | ((with_reducible refine gE ?_); simp (maxSteps:=9^7) only [ss, X1, tab, simprocAttr, -List.reduceReplicate, hLO, plC, rtC, sgC, List.length_map, x1, x2, x4, x5, d1, d2, d3, d4, d5, d6]) | (refine hK _ ?_; clear hK K) | refine Vf rfl ?_ | (refine Or.inl ⟨rfl, ?_⟩; refine X2 ?_ ?_ rfl rfl rfl rfl <;> simp only [X4, sl, hLO, plC, rtC, sgC, List.length_map, x1, x2, x4, x5, d1, d2, d3, d4, d5, d6]))
   refine hK _ ?_
   clear hK K
   simp only [X4, s_0, s_s, hLO]
   clear hLO
   obtain ⟨LL, hLL⟩ : ∃ LL, LL = [r.path, r.over] := ⟨_, rfl⟩
   have hl2 : LL.length = 2 := by rw [hLL]; rfl
   have hL20 : ∀ i (hi : i < LL.length), LL[i].length ≤ 5000 := fun i hi => by
    subst hLL
    have : i = 0 ∨ i = 1 := by simp at hi; omega
    rcases this with rfl | rfl <;> simp <;> omega
   have hbadQ : ∀ j (hj : j < LL.length), okQ p ne (LL.take j).flatten LL[j] = false → okR p r = false := fun j hj h => by
    subst hLL
    have : j = 0 ∨ j = 1 := by simp at hj; omega
    rcases this with rfl | rfl
    ·simp at h; rw [hok, h]; simp
    ·simp at h; rw [hok, h]; simp
   have hgoodQ : (∀ j (hj : j < LL.length), okQ p ne (LL.take j).flatten LL[j] = true) → okR p r = Ue (okF p) r.flanks := fun h => by
    have h0 := h 0 (by omega)
    have h1 := h 1 (by omega)
    subst hLL
    simp at h0 h1
    rw [hok, h0, h1]; rfl
   have lit : ∀ (σ : AState) (K : AV → List (Nat × Res) → Prop), X1 tab σ K none 161 2 [(0, .sl 1 (r.path.map Ym) .sh), (1, .sl 1 (r.over.map Ym) .sh)] = K (.sl 1 (LL.map X5v) .full) [] := fun σ K => by
    rw [hLL]; exact Te (T := tab) (ti := ti161) (te := ti41) rfl rfl rfl rfl rfl rfl
   repeat' (first | (with_reducible first | refine Vk fun K hK => ?_ | refine V0 ?_) | ((with_reducible refine gE ?_); simp (maxSteps:=9^7) only [ss, tab, simprocAttr, -List.reduceReplicate, plC, rtC, List.length_map, hn, hn', hn9, Qg, List.length_replicate, Li ne hn, lit]) | (refine hK _ ?_; clear hK K))
   refine Xe ?_
   refine Xl (fun m (i : Nat) => [(95, i64 (i : Int)), (3, .ptr (m + 0) 0), (4, .ptr (m + 1) 0), (5, .ptr (m + 2) 0), (7, .ptr (m + 3) 0), (9, .ptr (m + 4) 0), (11, .ptr (m + 5) 0), (6, .top), (13, .top), (15, .top), (96, .top), (97, .top), (98, .top), (99, .top), (100, .top), (101, .top), (102, .top), (103, .top), (104, .top), (105, .top), (106, .top), (107, .top), (108, .top), (109, .top), (110, .top), (111, .top), (112, .top), (113, .top), (114, .top), (115, .top), (116, .top), (117, .top)]) (fun m i => [some (.box 28 (plC p)), some (.box 44 (rtC r)), some (.box 103 (Uj p.secs)), some (.box 59 [i64 en.1, i64 (ne : Int), i64 en.2.2]), some (.box 59 (sgC ex)), some (.box 147 (Fu ne (LL.take i).flatten)), none, none]) (fun i => out) (fun i => i ≤ LL.length ∧ (∀ j (hj : j < LL.length), j < i → okQ p ne (LL.take j).flatten LL[j] = true)) (fun i => LL.length - i) 0 ⟨Nat.zero_le _, by intros; omega⟩ ?_ fun m i hm hi => ?_
   ·refine X2 ?_ ?_ (by first | rfl | (simp only [List.length_map, List.take_zero, List.flatten_nil, plC, rtC, sgC]; rfl) | simp only [List.length_map, List.take_zero, List.flatten_nil, plC, rtC, sgC]) rfl rfl rfl <;> simp only [X4, sl, List.length_map, List.take_zero, List.flatten_nil, plC, rtC, sgC]
   obtain ⟨hi, hq⟩ := hi
   simp only [X4, s_0, s_s]
   have hw := Yl (n := i) 1 1 rfl (by omega)
   by_cases hlt : i < LL.length
   ·have gi := Xg X5v LL i [] hlt
    have hq0 := hq
    clear hq
    repeat' (first | (with_reducible first | refine Vk fun K hK => ?_ | refine V0 ?_ | refine Vb ?_ | refine Vs ?_) | ((with_reducible refine gE ?_); simp (maxSteps:=9^7) only [ss, X1, tab, simprocAttr, -List.reduceReplicate, Xi hm, List.length_map, hlt, gi, X5v]) | (refine hK _ ?_; clear hK K) | refine Vt rfl ?_)
    have hLi := hL20 i hlt
    have hlti := hlt
    obtain ⟨L, hL⟩ : ∃ L, L = LL[i] := ⟨_, rfl⟩
    obtain ⟨Bf, hBf⟩ : ∃ Bf, Bf = (LL.take i).flatten := ⟨_, rfl⟩
    have hfl : (LL.take (i + 1)).flatten = Bf ++ L := by rw [List.take_succ_eq_append_getElem hlti, List.flatten_append, hBf, hL]; simp
    have hbad2 : okQ p ne Bf L = false → okR p r = false := fun h => hbadQ i hlti (by rw [← hBf, ← hL]; exact h)
    have hnext : okQ p ne Bf L = true → ∀ j (hj : j < LL.length), j < i + 1 → okQ p ne (LL.take j).flatten LL[j] = true := fun h j hj hji => by
     by_cases h' : j = i
     ·subst h'; rw [← hBf, ← hL]; exact h
     ·exact hq0 j hj (by omega)
    rw [← hL] at hLi
    simp only [← hL, ← hBf]
    refine Xe ?_
    refine Xl (fun m (k : Nat) => [(101, i64 (k : Int)), (3, .ptr (m + 0) 0), (4, .ptr (m + 1) 0), (5, .ptr (m + 2) 0), (7, .ptr (m + 3) 0), (9, .ptr (m + 4) 0), (11, .ptr (m + 5) 0), (6, .top), (15, .top), (102, .top), (103, .top), (104, .top), (105, .top), (106, .top), (107, .top), (108, .top), (109, .top), (110, .top), (111, .top), (112, .top), (113, .top), (114, .top), (115, .top), (116, .top)]) (fun m k => [some (.box 28 (plC p)), some (.box 44 (rtC r)), some (.box 103 (Uj p.secs)), some (.box 59 [i64 en.1, i64 (ne : Int), i64 en.2.2]), some (.box 59 (sgC ex)), some (.box 147 (Fu ne (Bf ++ L.take k))), none, none]) (fun k => out) (fun k => k ≤ L.length ∧ (∀ q (hq : q < L.length), q < k → okL p ne (Bf ++ L.take q) L[q] = true)) (fun k => L.length - k) 0 ⟨Nat.zero_le _, by intros; omega⟩ ?_ fun m k hm hk => ?_
    ·refine X2 ?_ ?_ (by first | rfl | (simp only [List.length_map, List.take_zero, List.append_nil, plC, rtC, sgC]; rfl) | simp only [List.length_map, List.take_zero, List.append_nil, plC, rtC, sgC]) rfl rfl rfl <;> simp only [X4, sl, List.length_map, List.take_zero, List.append_nil, plC, rtC, sgC]
    obtain ⟨hk, hq⟩ := hk
    simp only [X4, s_0, s_s]
    have hw2 := Yl (n := k) 1 1 rfl (by omega)
    by_cases hlt : k < L.length
    ·have gk := Xg Ym L k [] hlt
     have ct := Hg p.secs L[k] hmay
     have hfk : Bf ++ L.take k ++ [L[k]] = Bf ++ L.take (k + 1) := by rw [List.append_assoc, ← List.take_succ_eq_append_getElem hlt]
     cases hgs : (Qt p.secs L[k]).isSome with
     | false =>
      have bad : okL p ne (Bf ++ L.take k) L[k] = false := by unfold okL; rw [hgs]; rfl
      rw [hgs] at ct
      repeat' (first | (with_reducible first | refine Vk fun K hK => ?_ | refine V0 ?_ | refine Vb ?_ | refine Vs ?_) | ((with_reducible first | refine gE ?_ | refine gR ?_); simp (maxSteps:=9^7) only [ss, X1, tab, simprocAttr, -List.reduceReplicate, Xi hm, List.length_map, hlt, gk, Ym]) | ((with_reducible refine Vz ?_); (try refine Or.inr ⟨(by intro h; cases h), ?_⟩); refine Vo rfl rfl rfl (fun _ _ => rfl) ?_ <;> first | rfl | (rw [hbad2 (Yz hlt bad)]; rfl) | skip) | (refine X3 (ct) ?_) | (refine hK _ ?_; clear hK K) | refine Vt rfl ?_)
     | true =>
      obtain ⟨nb, hnb, hnb1⟩ : ∃ nb : Nat, L[k] = nb ∧ nb < 100 := by
       obtain ⟨s, hs'⟩ := Option.isSome_iff_exists.1 hgs
       obtain ⟨h1, h2⟩ := W5 hs'
       have := U1.1 (U0 hmay h1).1
       exact ⟨(L[k]).toNat, by omega, by omega⟩
      have hnb' : (nb : Int) < 100 := by omega
      have hnb9 : nb ≤ 99 := by omega
      have hokL := X5u p ne (Bf ++ L.take k) nb
      rw [← hnb, hgs, Bool.true_and] at hokL
      have hst := Av ne (Bf ++ L.take k) nb hnb1
      rw [← hnb, hfk] at hst
      rw [hgs, hnb] at ct
      repeat' (first | (with_reducible first | refine Vk fun K hK => ?_ | refine V0 ?_ | refine Vb ?_ | refine Vs ?_) | ((with_reducible first | refine gE ?_ | refine gR ?_); simp (maxSteps:=9^7) only [ss, X1, tab, simprocAttr, -List.reduceReplicate, Xi hm, List.length_map, hlt, gk, Ym, hnb, hnb1, hnb', hnb9, Ri, Mt _ _ nb 1 hnb1, hst, hw2]) | ((with_reducible refine Vz ?_); (try refine Or.inr ⟨(by intro h; cases h), ?_⟩); refine Vo rfl rfl rfl (fun _ _ => rfl) ?_ <;> first | rfl | (rw [hbad2 (Yz hlt (by rw [hokL]; simp_all))]; rfl) | skip) | (refine X3 (ct) ?_) | (refine hK _ ?_; clear hK K) | refine Vt rfl ?_ | refine Vi rfl (fun hg => ?_) (fun hg => ?_) | clear hK K)
      refine ⟨k + 1, ⟨by omega, fun q hq1 hq2 => ?_⟩, by omega, ?_⟩
      ·by_cases h : q = k
       ·subst h; rw [hokL]; simp_all
       ·exact hq q hq1 (by omega)
      refine Xx [true, true, true, true, true, true, false, false] (fun n_ => ?_) (fun n_ => ?_) <;> simp only [X4, sm, plC, rtC, sgC]
    ·obtain rfl : k = L.length := by omega
     have hallL : okQ p ne Bf L = true := Q3 fun q hq1 => hq q hq1 hq1
     repeat' (first | (with_reducible first | refine Vk fun K hK => ?_ | refine V0 ?_) | ((with_reducible refine gE ?_); simp (maxSteps:=9^7) only [ss, X1, tab, simprocAttr, -List.reduceReplicate, Xi hm, List.length_map, hlt, hw, List.take_length]) | ((with_reducible refine Vx ?_); simp only [sb, reduceIte, Nat.reduceEqDiff]) | (refine hK _ ?_; clear hK K) | refine Vf rfl ?_ | clear hK K)
     refine ⟨i + 1, ⟨by omega, hnext hallL⟩, by omega, ?_⟩
     rw [hfl]
     refine Xx [true, true, true, true, true, true, false, false] (fun n_ => ?_) (fun n_ => ?_) <;> simp only [X4, sm, plC, rtC, sgC, hlti, decide_true]
   ·obtain rfl : i = LL.length := by omega
    have hok2 := hgoodQ fun j hj => hq j hj hj
    clear hq hbadQ hgoodQ
    obtain ⟨MA, hMA⟩ : ∃ MA, MA = Fu ne (LL.take LL.length).flatten := ⟨_, rfl⟩
    rw [← hMA]
    repeat' (first | (with_reducible first | refine Vk fun K hK => ?_ | refine V0 ?_) | ((with_reducible refine gE ?_); simp (maxSteps:=9^7) only [ss, X1, tab, simprocAttr, -List.reduceReplicate, Xi hm, plC, rtC, List.length_map, hlt]) | ((with_reducible refine Vx ?_); simp only [sb, reduceIte, Nat.reduceEqDiff]) | (refine hK _ ?_; clear hK K) | refine Vf rfl ?_ | clear hK K)
    refine Xe ?_
    refine Xl (fun m (i : Nat) => [(121, i64 (i : Int)), (3, .ptr (m + 0) 0), (4, .ptr (m + 1) 0), (5, .ptr (m + 2) 0), (7, .ptr (m + 3) 0), (9, .ptr (m + 4) 0), (11, .ptr (m + 5) 0), (6, .top), (16, .top), (17, .top), (18, .top), (19, .top), (122, .top), (123, .top), (124, .top), (125, .top), (126, .top), (127, .top), (128, .top), (129, .top), (130, .top), (131, .top), (132, .top), (133, .top), (134, .top), (135, .top), (136, .top), (137, .top), (138, .top), (139, .top), (140, .top), (141, .top), (142, .top), (143, .top), (144, .top), (145, .top), (146, .top), (147, .top), (148, .top), (149, .top), (150, .top), (151, .top), (152, .top), (153, .top), (154, .top), (155, .top), (156, .top), (157, .top), (158, .top), (159, .top), (160, .top), (161, .top), (162, .top)]) (fun m i => [some (.box 28 (plC p)), some (.box 44 (rtC r)), some (.box 103 (Uj p.secs)), some (.box 59 [i64 en.1, i64 (ne : Int), i64 en.2.2]), some (.box 59 (sgC ex)), some (.box 147 (MA)), none, none]) (fun i => out) (fun i => i ≤ r.flanks.length ∧ (∀ j (hj : j < r.flanks.length), j < i → okF p (r.flanks.take j) r.flanks[j] = true)) (fun i => r.flanks.length - i) 0 ⟨Nat.zero_le _, by intros; omega⟩ ?_ fun m i hm hi => ?_
    ·refine X2 ?_ ?_ (by first | rfl | (simp only [List.length_map, plC, rtC, sgC]; rfl) | simp only [List.length_map, plC, rtC, sgC]) rfl rfl rfl <;> simp only [X4, sl, List.length_map, plC, rtC, sgC]
    obtain ⟨hi, hq⟩ := hi
    simp only [X4, s_0, s_s]
    have hw := Yl (n := i) 1 1 rfl (by omega)
    by_cases hltf : i < r.flanks.length
    ·have gi := Xg jnC r.flanks i [] hltf
     have c3 := He p.pts r.flanks[i].1 (by omega)
     have hokF : okF p (r.flanks.take i) r.flanks[i] = ((Bt p.pts r.flanks[i].1).isSome && (match (r.flanks.take i).getLast? with
      | none => true
      | some k => decide (k.1 < r.flanks[i].1)) && (r.flanks[i].2 == 1 || r.flanks[i].2 == 2)) := rfl
     generalize (Bt p.pts r.flanks[i].1).getD (0, 0) = X at c3
     generalize (Bt p.pts r.flanks[i].1).isSome = S at c3 hokF
     have bad : okF p (r.flanks.take i) r.flanks[i] = false → okR p r = false := fun h => by rw [hok2, Yz hltf h]
     have next : okF p (r.flanks.take i) r.flanks[i] = true → ∀ j (hj : j < r.flanks.length), j < i + 1 → okF p (r.flanks.take j) r.flanks[j] = true := fun h j hj hji => by
      by_cases h' : j = i
      ·subst h'; exact h
      ·exact hq j hj (by omega)
     by_cases h0 : i = 0
     ·have hd0 : decide ((i : Int) > 0) = false := decide_eq_false (by omega)
      have hlast : (r.flanks.take i).getLast? = none := by rw [h0]; rfl
      rw [hlast] at hokF
      simp only [Bool.and_true] at hokF
      repeat' (first | (with_reducible first | refine Vk fun K hK => ?_ | refine V0 ?_ | refine Vb ?_ | refine Vs ?_ | refine Vq (by kernel_rfl) ?_) | ((with_reducible first | refine gE ?_ | refine gR ?_); simp (maxSteps:=9^7) only [ss, X1, tab, simprocAttr, -List.reduceReplicate, Xi hm, plC, List.length_map, hltf, gi, jnA, jnC, X0, hd0, hw]) | ((with_reducible refine Vz ?_); (try refine Or.inr ⟨(by intro h; cases h), ?_⟩); refine Vo rfl rfl rfl (fun _ _ => rfl) ?_ <;> first | rfl | (rw [bad (by rw [hokF]; simp at *; simp_all)]; rfl) | skip) | (refine X3 (c3) ?_) | ((with_reducible refine Vg (fun hg => ?_) (fun hg => ?_)) <;> (try simp only [nb] at hg) <;> simp (maxSteps:=9^7) only [ss, X1, tab, simprocAttr, -List.reduceReplicate, hg, Xi hm, plC, List.length_map, hltf, gi, jnA, jnC, X0, hd0, hw]) | (refine hK _ ?_; clear hK K) | refine Vt rfl ?_ | refine Vf rfl ?_ | (refine Vi rfl (fun hg => ?_) (fun hg => ?_)) <;> try simp only [hg] | clear hK K)
      ·refine ⟨i + 1, ⟨by omega, next (by rw [hokF]; simp at *; simp_all)⟩, by omega, ?_⟩
       refine Xx [true, true, true, true, true, true, false, false] (fun n_ => ?_) (fun n_ => ?_) <;> simp only [X4, sm, plC, rtC, sgC, hltf, decide_true]
      ·refine ⟨i + 1, ⟨by omega, next (by rw [hokF]; simp at *; simp_all)⟩, by omega, ?_⟩
       refine Xx [true, true, true, true, true, true, false, false] (fun n_ => ?_) (fun n_ => ?_) <;> simp only [X4, sm, plC, rtC, sgC, hltf, decide_true]
     ·have hd0 : decide ((i : Int) > 0) = true := decide_eq_true (by omega)
      have hs1 := X25 (n := i) 1 1 rfl (by omega) (by omega)
      have hl1 : i - 1 < r.flanks.length := by omega
      have g1 := Xg jnC r.flanks (i - 1) [] hl1
      have hlast : (r.flanks.take i).getLast? = some r.flanks[i - 1] := by rw [List.getLast?_eq_getElem?, List.length_take, Nat.min_eq_left (by omega), List.getElem?_take_of_lt (by omega), List.getElem?_eq_getElem hl1]
      rw [hlast] at hokF
      dsimp only at hokF
      have hge : decide (r.flanks[i - 1].1 ≥ r.flanks[i].1) = !decide (r.flanks[i - 1].1 < r.flanks[i].1) := by rw [Bool.eq_iff_iff]; simp
      generalize decide (r.flanks[i - 1].1 < r.flanks[i].1) = D at hokF hge
      repeat' (first | (with_reducible first | refine Vk fun K hK => ?_ | refine V0 ?_ | refine Vb ?_ | refine Vs ?_ | refine Vq (by kernel_rfl) ?_) | ((with_reducible first | refine gE ?_ | refine gR ?_); simp (maxSteps:=9^7) only [ss, X1, tab, simprocAttr, -List.reduceReplicate, Xi hm, plC, rtC, List.length_map, hltf, gi, jnA, jnC, X0, hd0, hs1, hl1, g1, hge, hw]) | ((with_reducible refine Vz ?_); (try refine Or.inr ⟨(by intro h; cases h), ?_⟩); refine Vo rfl rfl rfl (fun _ _ => rfl) ?_ <;> first | rfl | (rw [bad (by rw [hokF]; clear hge; simp at *; simp_all)]; rfl) | skip) | (refine X3 (c3) ?_) | ((with_reducible refine Vg (fun hg => ?_) (fun hg => ?_)) <;> (try simp only [nb] at hg) <;> simp (maxSteps:=9^7) only [ss, X1, tab, simprocAttr, -List.reduceReplicate, hg, Xi hm, plC, rtC, List.length_map, hltf, gi, jnA, jnC, X0, hd0, hs1, hl1, g1, hge, hw]) | (refine hK _ ?_; clear hK K) | refine Vt rfl ?_ | refine Vf rfl ?_ | (refine Vi rfl (fun hg => ?_) (fun hg => ?_)) <;> try simp only [hg] | clear hK K)
      ·refine ⟨i + 1, ⟨by omega, next (by rw [hokF]; clear hge; simp at *; simp_all)⟩, by omega, ?_⟩
       refine Xx [true, true, true, true, true, true, false, false] (fun n_ => ?_) (fun n_ => ?_) <;> simp only [X4, sm, plC, rtC, sgC, hltf, decide_true]
      ·refine ⟨i + 1, ⟨by omega, next (by rw [hokF]; clear hge; simp at *; simp_all)⟩, by omega, ?_⟩
       refine Xx [true, true, true, true, true, true, false, false] (fun n_ => ?_) (fun n_ => ?_) <;> simp only [X4, sm, plC, rtC, sgC, hltf, decide_true]
    ·have e := Q3 (f := okF p) (l := r.flanks) fun j hj => hq j hj (by omega)
     repeat' (first | (with_reducible first | refine Vk fun K hK => ?_ | refine V0 ?_) | ((with_reducible refine gE ?_); simp (maxSteps:=9^7) only [ss, X1, tab, simprocAttr, -List.reduceReplicate, Xi hm, rtC, List.length_map, hltf]) | ((with_reducible refine Vz ?_); (try refine Or.inr ⟨(by intro h; cases h), ?_⟩); refine Vo rfl rfl rfl (fun _ _ => rfl) ?_ <;> first | rfl | (rw [hok2, e]; rfl) | skip) | ((with_reducible refine Vx ?_); simp only [sb, reduceIte, Nat.reduceEqDiff]) | (refine hK _ ?_; clear hK K) | refine Vf rfl ?_ | clear hK K)
end Go.Proofs.YtgdhnngpfieloaaGreat.Pln
