/- The layer of abstract values, joined: KD. -/
import Derived.Test.YtgdhnngpfieloaaZGA
import Derived.Test.YtgdhnngpfieloaaZKC
import Derived.Test.YtgdhnngpfieloaaZW0
section
namespace Go.Proofs.Ytgdhnngpfieloaa.Pln
set_option linter.unusedVariables false
set_option linter.unusedSimpArgs false
open Go Go.VS Tab
set_option maxHeartbeats 8000000
set_option maxRecDepth 4000
abbrev txB (A : List UInt8) (ko : Nat) : Res := .box 62 [.sl 1 (bytesAV A) (.own ko)]
abbrev txR (A : List UInt8) : Res := .row 5 1 A.length
def txO (out : Nat → Option Res) (kb ko : Nat) (A : List UInt8) : Nat → Option Res := upd1 (upd1 out kb (txB A ko)) ko (txR A)
theorem txO_b {out : Nat → Option Res} {kb ko : Nat} (h : kb ≠ ko) (A : List UInt8) : txO out kb ko A kb = some (txB A ko) := by unfold txO; rw [upd1_ne _ _ h, upd1_same]
theorem txO_o {out : Nat → Option Res} {kb ko : Nat} (A : List UInt8) : txO out kb ko A ko = some (txR A) := by unfold txO; rw [upd1_same]
theorem txO_r {out : Nat → Option Res} {kb ko : Nat} (h : kb ≠ ko) (A : List UInt8) (q : Res) : upd1 (txO out kb ko A) ko q kb = some (txB A ko) := by rw [upd1_ne _ _ h, txO_b h]
theorem txO_k {out : Nat → Option Res} {kb ko k : Nat} (h : k ≠ kb) (h' : k ≠ ko) (A : List UInt8) : txO out kb ko A k = out k := by unfold txO; rw [upd1_ne _ _ h', upd1_ne _ _ h]
theorem txO_self {out : Nat → Option Res} {kb ko : Nat} {A : List UInt8} (h1 : out kb = some (txB A ko)) (h2 : out ko = some (txR A)) : txO out kb ko A = out := by unfold txO; rw [upd1_self h1, upd1_self h2]
theorem txO_upd (out : Nat → Option Res) (kb ko : Nat) (A : List UInt8) : upd out [(kb, txB A ko), (ko, txR A)] = txO out kb ko A := by rw [upd_cons, upd_cons, upd_nil]; rfl
theorem txO_set (out : Nat → Option Res) (kb ko : Nat) (A B : List UInt8) : upd1 (upd1 (txO out kb ko A) kb (txB B ko)) ko (txR B) = txO out kb ko B := by
  unfold txO; funext j; simp only [upd1]
  by_cases h1 : j = ko
  · rw [if_pos h1, if_pos h1]
  · by_cases h2 : j = kb
    · rw [if_neg h1, if_pos h2, if_neg h1, if_pos h2]
    · rw [if_neg h1, if_neg h2, if_neg h1, if_neg h2, if_neg h1, if_neg h2]
theorem txO_set' {out : Nat → Option Res} {kb ko : Nat} (h : kb ≠ ko) (A B : List UInt8) : upd1 (upd1 (txO out kb ko A) ko (txR B)) kb (txB B ko) = txO out kb ko B := by
  unfold txO; funext j; simp only [upd1]
  by_cases h1 : j = ko
  · have h2 : ¬ j = kb := fun e => h (e.symm.trans h1)
    rw [if_neg h2, if_pos h1, if_pos h1]
  · by_cases h2 : j = kb
    · rw [if_pos h2, if_neg h1, if_pos h2]
    · rw [if_neg h2, if_neg h1, if_neg h1, if_neg h2, if_neg h1, if_neg h2]
theorem txO_app {out : Nat → Option Res} {kb ko : Nat} (h : kb ≠ ko) (A B : List UInt8) : upd1 (upd1 (txO out kb ko A) ko (.row 5 1 (A.length + B.length))) kb (.box 62 [.sl 1 (bytesAV A ++ bytesAV B) (.own ko)]) = txO out kb ko (A ++ B) := by
  rw [bytes_app, ← List.length_append]; exact txO_set' h A (A ++ B)
theorem flat_step {α β : Type} (f : α → List β) (l : List α) (i : Nat) (h : i < l.length) : (l.take (i + 1)).flatMap f = (l.take i).flatMap f ++ f l[i] := by
  rw [List.take_succ_eq_append_getElem h, List.flatMap_append]; simp
theorem flat_pre {α β : Type} (f : α → List β) (l : List α) (i : Nat) : ((l.take i).flatMap f).length ≤ (l.flatMap f).length := by
  conv => rhs; rw [← List.take_append_drop i l, List.flatMap_append, List.length_append]
  omega
theorem c_tput (kb ko : Nat) (hne : kb ≠ ko) (A : List UInt8) (l : List Int) (md : Md) (hb : A.length + (l.flatMap putZ).length ≤ 1000000) (hl : l.length ≤ 1000000) :
    ACall Try.prog 57 [.ptr kb 0, .sl 1 (l.map intC) md] [(kb, some (txB A ko)), (ko, some (txR A))] (.tup []) [(kb, txB (A ++ l.flatMap putZ) ko), (ko, txR (A ++ l.flatMap putZ))] := by
  refine acall_of 0 Try.func57 rfl fun n out _ _ => ?_
  simp only [Try.ntmps57, List.length_cons, List.length_nil, List.length_map, List.length_replicate, rep_map, Nat.reduceAdd, Nat.reduceSub, List.replicate, List.cons_append, List.nil_append]
  rename_i hneeds hgv
  obtain ⟨hk, hko, _⟩ := hneeds
  obtain ⟨hkn, hkon, _⟩ := hgv
  have e0 : txO out kb ko (A ++ (l.take 0).flatMap putZ) = out := by
    rw [List.take_zero, List.flatMap_nil, List.append_nil]; exact txO_self hk hko
  refine awp_seq_k fun K hK => awp_ev tab_ok [] ?_
  simp (maxSteps:=9^7) only [ss, evLit, tab, reduceCtorEq, reduceIte, Nat.reduceEqDiff, Nat.reduceBEq, Int.reduceLE, Int.reduceToNat, Nat.reduceAdd, Nat.reduceLT, Nat.reduceLeDiff]
  repeat' (first | (with_reducible refine hK _ ?_; clear hK K) | with_reducible apply And.intro)
  refine awp_block ?_
  refine awp_for_g (fun i : Nat => [(10, i64 (i : Int)), (5, .top), (6, .top), (7, .top), (11, .top), (12, .top), (13, .top), (14, .top), (15, .top), (16, .top), (17, .top), (18, .top), (19, .top), (20, .top), (21, .top), (22, .top), (23, .top), (24, .top), (25, .top), (26, .top)]) (fun i => []) (fun i => txO out kb ko (A ++ (l.take i).flatMap putZ)) (fun i => i ≤ l.length) (fun i => l.length - i) 0 (Nat.zero_le _) ?_ fun i hi => ?_
  · refine le_of_all ?_ ?_ (by first | rfl | (simp only [e0, List.length_map]; rfl) | simp only [e0, List.length_map]) rfl rfl rfl <;> simp only [patch, sl, e0, List.length_map]
  simp only [patch, s_0, s_s]
  have hw := addw (n := i) 1 1 rfl (by omega)
  by_cases hlt : i < l.length
  · have gi := getD_map intC l i [] hlt
    have hfl := flat_pre putZ l (i + 1)
    rw [flat_step putZ l i hlt, List.length_append] at hfl
    obtain ⟨B, hB⟩ : ∃ B, B = A ++ (l.take i).flatMap putZ := ⟨_, rfl⟩
    have hB' : A ++ (l.take (i + 1)).flatMap putZ = B ++ putZ l[i] := by rw [flat_step putZ l i hlt, hB, List.append_assoc]
    have b1 : B.length + (putZ l[i]).length ≤ 1000000 := by rw [hB, List.length_append]; omega
    have b2 : B.length + (putZ l[i]).length ≤ 140737488355328 := by omega
    have b3 : B.length + (putZ l[i]).length ≤ 9223372036854775807 := by omega
    rw [← hB]
    repeat' (first | (with_reducible first | refine Vk fun K hK => ?_ | refine V0 ?_ | refine Vb ?_ | refine Vc ?_ | refine Vr ?_ | refine Vs ?_ | apply And.intro) | ((with_reducible first | refine gE ?_ | refine gR ?_); simp (maxSteps:=9^7) only [ss, evLit, tab, reduceCtorEq, reduceIte, Nat.reduceEqDiff, Nat.reduceBEq, Int.reduceLE, Int.reduceToNat, Nat.reduceAdd, Nat.reduceLT, Nat.reduceLeDiff, lk_out hkn, dm_out hkn, lk_out hkon, dm_out hkon, nx_outs hkn, nx_outs hkon, txO_b hne, txO_o, txO_r hne, txO_app hne, gi, intC, hlt, List.length_map, splice_all, b2, b3, bytes_length, hw]) | exact Vn | ((with_reducible refine Vz ?_); refine ret_unit (.inr rfl) rfl rfl rfl (fun _ _ => rfl) <;> first | rfl | skip) | (refine call_pure (c_codePut l[i]) ?_) | ((with_reducible refine Vx ?_); simp only [sb, reduceIte, Nat.reduceEqDiff]) | (refine hK _ ?_; clear hK K) | refine Vt rfl ?_ | refine Vf rfl ?_ | refine Vi rfl (fun hg => ?_) (fun hg => ?_) | clear hK K)
    refine ⟨i + 1, by omega, by omega, ?_⟩
    rw [hB']
    refine le_of_all ?_ ?_ rfl rfl rfl rfl <;> simp only [patch, sl, List.length_map, hlt, decide_true]
  · obtain rfl : i = l.length := by omega
    repeat' (first | (with_reducible first | refine Vk fun K hK => ?_ | refine V0 ?_ | refine Vb ?_ | refine Vc ?_ | refine Vr ?_ | refine Vs ?_ | apply And.intro) | ((with_reducible first | refine gE ?_ | refine gR ?_); simp (maxSteps:=9^7) only [ss, evLit, tab, reduceCtorEq, reduceIte, Nat.reduceEqDiff, Nat.reduceBEq, Int.reduceLE, Int.reduceToNat, Nat.reduceAdd, Nat.reduceLT, Nat.reduceLeDiff, hlt, List.length_map]) | exact Vn | ((with_reducible refine Vz ?_); refine ret_unit (.inr rfl) rfl rfl rfl (fun _ _ => rfl) <;> first | rfl | skip) | ((with_reducible refine Vx ?_); simp only [sb, reduceIte, Nat.reduceEqDiff]) | (refine hK _ ?_; clear hK K) | refine Vt rfl ?_ | refine Vf rfl ?_ | refine Vi rfl (fun hg => ?_) (fun hg => ?_) | clear hK K)
    rw [List.take_length]
    exact ret_unit (.inl rfl) rfl rfl rfl (fun j _ => by rw [txO_upd])
theorem c_tput1 (kb ko : Nat) (hne : kb ≠ ko) (A : List UInt8) (a : Int) (hb : A.length + (putZ a).length ≤ 1000000) :
    ACall Try.prog 57 [.ptr kb 0, .sl 1 [[i64 a]] .full] [(kb, some (txB A ko)), (ko, some (txR A))] (.tup []) [(kb, txB (A ++ putZ a) ko), (ko, txR (A ++ putZ a))] := by
  have h := c_tput kb ko hne A [a] .full (by simpa using hb) (by simp)
  rw [show [a].flatMap putZ = putZ a by simp] at h
  exact h
theorem c_tput2 (kb ko : Nat) (hne : kb ≠ ko) (A : List UInt8) (a b : Int) (hb : A.length + (putZ a ++ putZ b).length ≤ 1000000) :
    ACall Try.prog 57 [.ptr kb 0, .sl 1 [[i64 a], [i64 b]] .full] [(kb, some (txB A ko)), (ko, some (txR A))] (.tup []) [(kb, txB (A ++ (putZ a ++ putZ b)) ko), (ko, txR (A ++ (putZ a ++ putZ b)))] := by
  have h := c_tput kb ko hne A [a, b] .full (by simpa using hb) (by simp)
  rw [show [a, b].flatMap putZ = putZ a ++ putZ b by simp] at h
  exact h
theorem c_tput3 (kb ko : Nat) (hne : kb ≠ ko) (A : List UInt8) (a b c : Int) (hb : A.length + (putZ a ++ (putZ b ++ putZ c)).length ≤ 1000000) :
    ACall Try.prog 57 [.ptr kb 0, .sl 1 [[i64 a], [i64 b], [i64 c]] .full] [(kb, some (txB A ko)), (ko, some (txR A))] (.tup []) [(kb, txB (A ++ (putZ a ++ (putZ b ++ putZ c))) ko), (ko, txR (A ++ (putZ a ++ (putZ b ++ putZ c))))] := by
  have h := c_tput kb ko hne A [a, b, c] .full (by simpa using hb) (by simp)
  rw [show [a, b, c].flatMap putZ = putZ a ++ (putZ b ++ putZ c) by simp] at h
  exact h
theorem lit1 (a : Int) (σ : AState) (K : AV → List (Nat × Res) → Prop) : evLit tab σ K none 52 1 [(0, i64 a)] = K (.sl 1 [[i64 a]] .full) [] := evLit_one (T := tab) (ti := ti52) (te := ti3) rfl rfl rfl (by decide) (by decide) rfl rfl
theorem lit2 (a b : Int) (σ : AState) (K : AV → List (Nat × Res) → Prop) : evLit tab σ K none 52 2 [(0, i64 a), (1, i64 b)] = K (.sl 1 [[i64 a], [i64 b]] .full) [] := evLit_two (T := tab) (ti := ti52) (te := ti3) rfl rfl rfl rfl rfl rfl
end Go.Proofs.Ytgdhnngpfieloaa.Pln
end
section
namespace Go.Proofs.Ytgdhnngpfieloaa.Pln
set_option linter.unusedVariables false
set_option linter.unusedSimpArgs false
open Go Go.VS Tab
set_option maxHeartbeats 8000000
set_option maxRecDepth 4000
theorem call_32 {P : Program} {σ : AState} {K : AV → List (Nat × Res) → Prop} {f : FuncId} {args : List AV} {k j i : Nat} {q u v : Option Res} {q' u' : Res} {r : AV} (h : ACall P f args [(k, q), (j, u), (i, v)] r [(k, q'), (j, u')]) (h1 : σ.look k = q) (h2 : σ.look j = u) (h3 : σ.look i = v)
    (d1 : σ.dom k) (d2 : σ.dom j) (d3 : σ.dom i) (n1 : q ≠ some .dead) (n2 : u ≠ some .dead) (n3 : v ≠ some .dead) (hK : K r [(k, q'), (j, u')]) : evCall P σ K f args :=
  ⟨_, r, _, h, ⟨h1, h2, h3, trivial⟩, ⟨d1, d2, trivial⟩, (fun x hx => by simp at hx; rcases hx with rfl | rfl | rfl; exact ⟨d1, n1⟩; exact ⟨d2, n2⟩; exact ⟨d3, n3⟩), hK⟩
theorem c_list_s (kb ko : Nat) (hne : kb ≠ ko) (gf : FuncId) (caps : List AV) (hB : hasBody Try.prog gf = True) (l : List (Sec)) (enc : Sec → List UInt8) (A : List UInt8) (hl : l.length ≤ 1000000) (hb : A.length + (encL enc l).length ≤ 1000000)
    (hp : ∀ x, x ∈ l → ∀ B : List UInt8, B.length + (enc x).length ≤ 1000000 → ACall Try.prog gf (secA x :: caps) [(kb, some (txB B ko)), (ko, some (txR B))] (.tup []) [(kb, txB (B ++ enc x) ko), (ko, txR (B ++ enc x))]) :
    ACall Try.prog 58 [.ptr kb 0, .sl 3 (l.map secC) .sh, .fn (.func gf) caps] [(kb, some (txB A ko)), (ko, some (txR A))] (.tup []) [(kb, txB (A ++ encL enc l) ko), (ko, txR (A ++ encL enc l))] := by
  unfold encL at hb ⊢
  rw [List.length_append] at hb
  obtain ⟨C, hC⟩ : ∃ C, C = A ++ putZ (l.length : Int) := ⟨_, rfl⟩
  have hCl : C.length = A.length + (putZ (l.length : Int)).length := by rw [hC, List.length_append]
  rw [← List.append_assoc, ← hC]
  have ct := c_tput1 kb ko hne A (l.length : Int) (by omega)
  rw [← hC] at ct
  refine acall_of 1 Try.func58 rfl fun n out _ _ => ?_
  simp only [Try.ntmps58, List.length_cons, List.length_nil, List.length_map, List.length_replicate, rep_map, Nat.reduceAdd, Nat.reduceSub, List.replicate, List.cons_append, List.nil_append]
  rename_i hneeds hgv
  obtain ⟨hk, hko, _⟩ := hneeds
  obtain ⟨hkn, hkon, _⟩ := hgv
  repeat' (first | (with_reducible first | refine Vk fun K hK => ?_ | refine V0 ?_ | refine Vb ?_ | refine Vc ?_ | refine Vr ?_ | refine Vs ?_ | apply And.intro) | ((with_reducible first | refine gE ?_ | refine gR ?_); simp (maxSteps:=9^7) only [ss, tab, reduceCtorEq, reduceIte, Nat.reduceEqDiff, Nat.reduceBEq, Int.reduceLE, Int.reduceToNat, Nat.reduceAdd, Nat.reduceLT, Nat.reduceLeDiff, lit1, List.length_map, lk_out hkn, lk_out hkon, dm_out hkn, dm_out hkon, nx_outs hkn, nx_outs hkon]) | exact Vn | ((with_reducible refine Vz ?_); refine ret_unit (.inr rfl) rfl rfl rfl (fun _ _ => rfl) <;> first | rfl | skip) | (refine call_two ct (by rw [lk_out hkn]; exact hk) (by rw [lk_out hkon]; exact hko) (by rw [dm_out hkn]; trivial) (by rw [dm_out hkon]; trivial) (by simp) (by simp) ?_) | ((with_reducible refine Vx ?_); simp only [sb, reduceIte, Nat.reduceEqDiff]) | (refine hK _ ?_; clear hK K) | refine Vt rfl ?_ | refine Vf rfl ?_ | refine Vi rfl (fun hg => ?_) (fun hg => ?_) | clear hK K)
  have e0 : txO out kb ko (C ++ (l.take 0).flatMap enc) = upd1 (upd1 out kb (txB C ko)) ko (txR C) := by rw [List.take_zero, List.flatMap_nil, List.append_nil]; rfl
  refine awp_block ?_
  refine awp_for_mv (fun m (i : Nat) => [(15, i64 (i : Int)), (7, .top), (16, .top), (17, .top), (18, .top), (19, .top), (20, .top), (21, .top), (22, .top)]) (fun m i => [none]) (fun i => txO out kb ko (C ++ (l.take i).flatMap enc)) (fun i => i ≤ l.length) (fun i => l.length - i) 0 (Nat.zero_le _) ?_ fun m i hm hi => ?_
  · refine le_of_all ?_ ?_ (by first | rfl | (simp only [e0, List.length_map]; rfl) | simp only [e0, List.length_map]) rfl rfl rfl <;> simp only [patch, sl, e0, List.length_map]
  simp only [patch, s_0, s_s]
  have hw := addw (n := i) 1 1 rfl (by omega)
  by_cases hlt : i < l.length
  · have gi := getD_map secC l i [] hlt
    have hfl := flat_pre enc l (i + 1)
    rw [flat_step enc l i hlt, List.length_append] at hfl
    obtain ⟨B, hB'⟩ : ∃ B, B = C ++ (l.take i).flatMap enc := ⟨_, rfl⟩
    have hB2 : C ++ (l.take (i + 1)).flatMap enc = B ++ enc l[i] := by rw [flat_step enc l i hlt, hB', List.append_assoc]
    have b1 : B.length + (enc l[i]).length ≤ 1000000 := by rw [hB', List.length_append]; omega
    have cp := hp l[i] (List.getElem_mem hlt) B b1
    rw [← hB']
    repeat' (first | (with_reducible first | refine Vk fun K hK => ?_ | refine V0 ?_ | refine Vb ?_ | refine Vc ?_ | refine Vr ?_ | refine Vs ?_ | apply And.intro) | ((with_reducible first | refine gE ?_ | refine gR ?_); simp (maxSteps:=9^7) only [ss, evLit, tab, reduceCtorEq, reduceIte, Nat.reduceEqDiff, Nat.reduceBEq, Int.reduceLE, Int.reduceToNat, Nat.reduceAdd, Nat.reduceLT, Nat.reduceLeDiff, locM hm, hB, gi, secC, hlt, List.length_map, lk_out hkn, lk_out hkon, dm_out hkn, dm_out hkon, nx_outs hkn, nx_outs hkon, txO_set, splice_all, hw]) | exact Vn | ((with_reducible refine Vz ?_); refine ret_unit (.inr rfl) rfl rfl rfl (fun _ _ => rfl) <;> first | rfl | skip) | (refine call_two cp (by rw [lk_out hkn]; exact txO_b hne B) (by rw [lk_out hkon]; exact txO_o B) (by rw [dm_out hkn]; trivial) (by rw [dm_out hkon]; trivial) (by simp) (by simp) ?_) | ((with_reducible refine Vx ?_); simp only [sb, reduceIte, Nat.reduceEqDiff]) | (refine hK _ ?_; clear hK K) | refine Vt rfl ?_ | refine Vf rfl ?_ | refine Vi rfl (fun hg => ?_) (fun hg => ?_) | clear hK K)
    refine ⟨i + 1, by omega, by omega, ?_⟩
    rw [hB2]
    refine le_move [false] (fun n_ => ?_) (fun n_ => ?_) <;> simp only [patch, sm]
  · obtain rfl : i = l.length := by omega
    repeat' (first | (with_reducible first | refine Vk fun K hK => ?_ | refine V0 ?_ | refine Vb ?_ | refine Vc ?_ | refine Vr ?_ | refine Vs ?_ | apply And.intro) | ((with_reducible first | refine gE ?_ | refine gR ?_); simp (maxSteps:=9^7) only [ss, evLit, tab, reduceCtorEq, reduceIte, Nat.reduceEqDiff, Nat.reduceBEq, Int.reduceLE, Int.reduceToNat, Nat.reduceAdd, Nat.reduceLT, Nat.reduceLeDiff, hlt, List.length_map]) | exact Vn | ((with_reducible refine Vz ?_); refine ret_unit (.inr rfl) rfl rfl rfl (fun _ _ => rfl) <;> first | rfl | skip) | ((with_reducible refine Vx ?_); simp only [sb, reduceIte, Nat.reduceEqDiff]) | (refine hK _ ?_; clear hK K) | refine Vt rfl ?_ | refine Vf rfl ?_ | refine Vi rfl (fun hg => ?_) (fun hg => ?_) | clear hK K)
    rw [List.take_length]
    exact ret_unit (.inl rfl) rfl rfl rfl (fun j _ => by rw [txO_upd])
theorem c_list_p (kb ko : Nat) (hne : kb ≠ ko) (gf : FuncId) (caps : List AV) (hB : hasBody Try.prog gf = True) (l : List (Int × Int)) (enc : Int × Int → List UInt8) (A : List UInt8) (hl : l.length ≤ 1000000) (hb : A.length + (encL enc l).length ≤ 1000000)
    (hp : ∀ x, x ∈ l → ∀ B : List UInt8, B.length + (enc x).length ≤ 1000000 → ACall Try.prog gf (jnA x :: caps) [(kb, some (txB B ko)), (ko, some (txR B))] (.tup []) [(kb, txB (B ++ enc x) ko), (ko, txR (B ++ enc x))]) :
    ACall Try.prog 60 [.ptr kb 0, .sl 2 (l.map jnC) .sh, .fn (.func gf) caps] [(kb, some (txB A ko)), (ko, some (txR A))] (.tup []) [(kb, txB (A ++ encL enc l) ko), (ko, txR (A ++ encL enc l))] := by
  unfold encL at hb ⊢
  rw [List.length_append] at hb
  obtain ⟨C, hC⟩ : ∃ C, C = A ++ putZ (l.length : Int) := ⟨_, rfl⟩
  have hCl : C.length = A.length + (putZ (l.length : Int)).length := by rw [hC, List.length_append]
  rw [← List.append_assoc, ← hC]
  have ct := c_tput1 kb ko hne A (l.length : Int) (by omega)
  rw [← hC] at ct
  refine acall_of 1 Try.func60 rfl fun n out _ _ => ?_
  simp only [Try.ntmps60, List.length_cons, List.length_nil, List.length_map, List.length_replicate, rep_map, Nat.reduceAdd, Nat.reduceSub, List.replicate, List.cons_append, List.nil_append]
  rename_i hneeds hgv
  obtain ⟨hk, hko, _⟩ := hneeds
  obtain ⟨hkn, hkon, _⟩ := hgv
  repeat' (first | (with_reducible first | refine Vk fun K hK => ?_ | refine V0 ?_ | refine Vb ?_ | refine Vc ?_ | refine Vr ?_ | refine Vs ?_ | apply And.intro) | ((with_reducible first | refine gE ?_ | refine gR ?_); simp (maxSteps:=9^7) only [ss, tab, reduceCtorEq, reduceIte, Nat.reduceEqDiff, Nat.reduceBEq, Int.reduceLE, Int.reduceToNat, Nat.reduceAdd, Nat.reduceLT, Nat.reduceLeDiff, lit1, List.length_map, lk_out hkn, lk_out hkon, dm_out hkn, dm_out hkon, nx_outs hkn, nx_outs hkon]) | exact Vn | ((with_reducible refine Vz ?_); refine ret_unit (.inr rfl) rfl rfl rfl (fun _ _ => rfl) <;> first | rfl | skip) | (refine call_two ct (by rw [lk_out hkn]; exact hk) (by rw [lk_out hkon]; exact hko) (by rw [dm_out hkn]; trivial) (by rw [dm_out hkon]; trivial) (by simp) (by simp) ?_) | ((with_reducible refine Vx ?_); simp only [sb, reduceIte, Nat.reduceEqDiff]) | (refine hK _ ?_; clear hK K) | refine Vt rfl ?_ | refine Vf rfl ?_ | refine Vi rfl (fun hg => ?_) (fun hg => ?_) | clear hK K)
  have e0 : txO out kb ko (C ++ (l.take 0).flatMap enc) = upd1 (upd1 out kb (txB C ko)) ko (txR C) := by rw [List.take_zero, List.flatMap_nil, List.append_nil]; rfl
  refine awp_block ?_
  refine awp_for_mv (fun m (i : Nat) => [(15, i64 (i : Int)), (7, .top), (16, .top), (17, .top), (18, .top), (19, .top), (20, .top), (21, .top), (22, .top)]) (fun m i => [none]) (fun i => txO out kb ko (C ++ (l.take i).flatMap enc)) (fun i => i ≤ l.length) (fun i => l.length - i) 0 (Nat.zero_le _) ?_ fun m i hm hi => ?_
  · refine le_of_all ?_ ?_ (by first | rfl | (simp only [e0, List.length_map]; rfl) | simp only [e0, List.length_map]) rfl rfl rfl <;> simp only [patch, sl, e0, List.length_map]
  simp only [patch, s_0, s_s]
  have hw := addw (n := i) 1 1 rfl (by omega)
  by_cases hlt : i < l.length
  · have gi := getD_map jnC l i [] hlt
    have hfl := flat_pre enc l (i + 1)
    rw [flat_step enc l i hlt, List.length_append] at hfl
    obtain ⟨B, hB'⟩ : ∃ B, B = C ++ (l.take i).flatMap enc := ⟨_, rfl⟩
    have hB2 : C ++ (l.take (i + 1)).flatMap enc = B ++ enc l[i] := by rw [flat_step enc l i hlt, hB', List.append_assoc]
    have b1 : B.length + (enc l[i]).length ≤ 1000000 := by rw [hB', List.length_append]; omega
    have cp := hp l[i] (List.getElem_mem hlt) B b1
    rw [← hB']
    repeat' (first | (with_reducible first | refine Vk fun K hK => ?_ | refine V0 ?_ | refine Vb ?_ | refine Vc ?_ | refine Vr ?_ | refine Vs ?_ | apply And.intro) | ((with_reducible first | refine gE ?_ | refine gR ?_); simp (maxSteps:=9^7) only [ss, evLit, tab, reduceCtorEq, reduceIte, Nat.reduceEqDiff, Nat.reduceBEq, Int.reduceLE, Int.reduceToNat, Nat.reduceAdd, Nat.reduceLT, Nat.reduceLeDiff, locM hm, hB, gi, jnC, hlt, List.length_map, lk_out hkn, lk_out hkon, dm_out hkn, dm_out hkon, nx_outs hkn, nx_outs hkon, txO_set, splice_all, hw]) | exact Vn | ((with_reducible refine Vz ?_); refine ret_unit (.inr rfl) rfl rfl rfl (fun _ _ => rfl) <;> first | rfl | skip) | (refine call_two cp (by rw [lk_out hkn]; exact txO_b hne B) (by rw [lk_out hkon]; exact txO_o B) (by rw [dm_out hkn]; trivial) (by rw [dm_out hkon]; trivial) (by simp) (by simp) ?_) | ((with_reducible refine Vx ?_); simp only [sb, reduceIte, Nat.reduceEqDiff]) | (refine hK _ ?_; clear hK K) | refine Vt rfl ?_ | refine Vf rfl ?_ | refine Vi rfl (fun hg => ?_) (fun hg => ?_) | clear hK K)
    refine ⟨i + 1, by omega, by omega, ?_⟩
    rw [hB2]
    refine le_move [false] (fun n_ => ?_) (fun n_ => ?_) <;> simp only [patch, sm]
  · obtain rfl : i = l.length := by omega
    repeat' (first | (with_reducible first | refine Vk fun K hK => ?_ | refine V0 ?_ | refine Vb ?_ | refine Vc ?_ | refine Vr ?_ | refine Vs ?_ | apply And.intro) | ((with_reducible first | refine gE ?_ | refine gR ?_); simp (maxSteps:=9^7) only [ss, evLit, tab, reduceCtorEq, reduceIte, Nat.reduceEqDiff, Nat.reduceBEq, Int.reduceLE, Int.reduceToNat, Nat.reduceAdd, Nat.reduceLT, Nat.reduceLeDiff, hlt, List.length_map]) | exact Vn | ((with_reducible refine Vz ?_); refine ret_unit (.inr rfl) rfl rfl rfl (fun _ _ => rfl) <;> first | rfl | skip) | ((with_reducible refine Vx ?_); simp only [sb, reduceIte, Nat.reduceEqDiff]) | (refine hK _ ?_; clear hK K) | refine Vt rfl ?_ | refine Vf rfl ?_ | refine Vi rfl (fun hg => ?_) (fun hg => ?_) | clear hK K)
    rw [List.take_length]
    exact ret_unit (.inl rfl) rfl rfl rfl (fun j _ => by rw [txO_upd])
theorem c_list_g (kb ko : Nat) (hne : kb ≠ ko) (gf : FuncId) (caps : List AV) (hB : hasBody Try.prog gf = True) (l : List (Int × Int × Int)) (enc : Int × Int × Int → List UInt8) (A : List UInt8) (hl : l.length ≤ 1000000) (hb : A.length + (encL enc l).length ≤ 1000000)
    (hp : ∀ x, x ∈ l → ∀ B : List UInt8, B.length + (enc x).length ≤ 1000000 → ACall Try.prog gf (sgA x :: caps) [(kb, some (txB B ko)), (ko, some (txR B))] (.tup []) [(kb, txB (B ++ enc x) ko), (ko, txR (B ++ enc x))]) :
    ACall Try.prog 62 [.ptr kb 0, .sl 3 (l.map sgC) .sh, .fn (.func gf) caps] [(kb, some (txB A ko)), (ko, some (txR A))] (.tup []) [(kb, txB (A ++ encL enc l) ko), (ko, txR (A ++ encL enc l))] := by
  unfold encL at hb ⊢
  rw [List.length_append] at hb
  obtain ⟨C, hC⟩ : ∃ C, C = A ++ putZ (l.length : Int) := ⟨_, rfl⟩
  have hCl : C.length = A.length + (putZ (l.length : Int)).length := by rw [hC, List.length_append]
  rw [← List.append_assoc, ← hC]
  have ct := c_tput1 kb ko hne A (l.length : Int) (by omega)
  rw [← hC] at ct
  refine acall_of 1 Try.func62 rfl fun n out _ _ => ?_
  simp only [Try.ntmps62, List.length_cons, List.length_nil, List.length_map, List.length_replicate, rep_map, Nat.reduceAdd, Nat.reduceSub, List.replicate, List.cons_append, List.nil_append]
  rename_i hneeds hgv
  obtain ⟨hk, hko, _⟩ := hneeds
  obtain ⟨hkn, hkon, _⟩ := hgv
  repeat' (first | (with_reducible first | refine Vk fun K hK => ?_ | refine V0 ?_ | refine Vb ?_ | refine Vc ?_ | refine Vr ?_ | refine Vs ?_ | apply And.intro) | ((with_reducible first | refine gE ?_ | refine gR ?_); simp (maxSteps:=9^7) only [ss, tab, reduceCtorEq, reduceIte, Nat.reduceEqDiff, Nat.reduceBEq, Int.reduceLE, Int.reduceToNat, Nat.reduceAdd, Nat.reduceLT, Nat.reduceLeDiff, lit1, List.length_map, lk_out hkn, lk_out hkon, dm_out hkn, dm_out hkon, nx_outs hkn, nx_outs hkon]) | exact Vn | ((with_reducible refine Vz ?_); refine ret_unit (.inr rfl) rfl rfl rfl (fun _ _ => rfl) <;> first | rfl | skip) | (refine call_two ct (by rw [lk_out hkn]; exact hk) (by rw [lk_out hkon]; exact hko) (by rw [dm_out hkn]; trivial) (by rw [dm_out hkon]; trivial) (by simp) (by simp) ?_) | ((with_reducible refine Vx ?_); simp only [sb, reduceIte, Nat.reduceEqDiff]) | (refine hK _ ?_; clear hK K) | refine Vt rfl ?_ | refine Vf rfl ?_ | refine Vi rfl (fun hg => ?_) (fun hg => ?_) | clear hK K)
  have e0 : txO out kb ko (C ++ (l.take 0).flatMap enc) = upd1 (upd1 out kb (txB C ko)) ko (txR C) := by rw [List.take_zero, List.flatMap_nil, List.append_nil]; rfl
  refine awp_block ?_
  refine awp_for_mv (fun m (i : Nat) => [(15, i64 (i : Int)), (7, .top), (16, .top), (17, .top), (18, .top), (19, .top), (20, .top), (21, .top), (22, .top)]) (fun m i => [none]) (fun i => txO out kb ko (C ++ (l.take i).flatMap enc)) (fun i => i ≤ l.length) (fun i => l.length - i) 0 (Nat.zero_le _) ?_ fun m i hm hi => ?_
  · refine le_of_all ?_ ?_ (by first | rfl | (simp only [e0, List.length_map]; rfl) | simp only [e0, List.length_map]) rfl rfl rfl <;> simp only [patch, sl, e0, List.length_map]
  simp only [patch, s_0, s_s]
  have hw := addw (n := i) 1 1 rfl (by omega)
  by_cases hlt : i < l.length
  · have gi := getD_map sgC l i [] hlt
    have hfl := flat_pre enc l (i + 1)
    rw [flat_step enc l i hlt, List.length_append] at hfl
    obtain ⟨B, hB'⟩ : ∃ B, B = C ++ (l.take i).flatMap enc := ⟨_, rfl⟩
    have hB2 : C ++ (l.take (i + 1)).flatMap enc = B ++ enc l[i] := by rw [flat_step enc l i hlt, hB', List.append_assoc]
    have b1 : B.length + (enc l[i]).length ≤ 1000000 := by rw [hB', List.length_append]; omega
    have cp := hp l[i] (List.getElem_mem hlt) B b1
    rw [← hB']
    repeat' (first | (with_reducible first | refine Vk fun K hK => ?_ | refine V0 ?_ | refine Vb ?_ | refine Vc ?_ | refine Vr ?_ | refine Vs ?_ | apply And.intro) | ((with_reducible first | refine gE ?_ | refine gR ?_); simp (maxSteps:=9^7) only [ss, evLit, tab, reduceCtorEq, reduceIte, Nat.reduceEqDiff, Nat.reduceBEq, Int.reduceLE, Int.reduceToNat, Nat.reduceAdd, Nat.reduceLT, Nat.reduceLeDiff, locM hm, hB, gi, sgC, hlt, List.length_map, lk_out hkn, lk_out hkon, dm_out hkn, dm_out hkon, nx_outs hkn, nx_outs hkon, txO_set, splice_all, hw]) | exact Vn | ((with_reducible refine Vz ?_); refine ret_unit (.inr rfl) rfl rfl rfl (fun _ _ => rfl) <;> first | rfl | skip) | (refine call_two cp (by rw [lk_out hkn]; exact txO_b hne B) (by rw [lk_out hkon]; exact txO_o B) (by rw [dm_out hkn]; trivial) (by rw [dm_out hkon]; trivial) (by simp) (by simp) ?_) | ((with_reducible refine Vx ?_); simp only [sb, reduceIte, Nat.reduceEqDiff]) | (refine hK _ ?_; clear hK K) | refine Vt rfl ?_ | refine Vf rfl ?_ | refine Vi rfl (fun hg => ?_) (fun hg => ?_) | clear hK K)
    refine ⟨i + 1, by omega, by omega, ?_⟩
    rw [hB2]
    refine le_move [false] (fun n_ => ?_) (fun n_ => ?_) <;> simp only [patch, sm]
  · obtain rfl : i = l.length := by omega
    repeat' (first | (with_reducible first | refine Vk fun K hK => ?_ | refine V0 ?_ | refine Vb ?_ | refine Vc ?_ | refine Vr ?_ | refine Vs ?_ | apply And.intro) | ((with_reducible first | refine gE ?_ | refine gR ?_); simp (maxSteps:=9^7) only [ss, evLit, tab, reduceCtorEq, reduceIte, Nat.reduceEqDiff, Nat.reduceBEq, Int.reduceLE, Int.reduceToNat, Nat.reduceAdd, Nat.reduceLT, Nat.reduceLeDiff, hlt, List.length_map]) | exact Vn | ((with_reducible refine Vz ?_); refine ret_unit (.inr rfl) rfl rfl rfl (fun _ _ => rfl) <;> first | rfl | skip) | ((with_reducible refine Vx ?_); simp only [sb, reduceIte, Nat.reduceEqDiff]) | (refine hK _ ?_; clear hK K) | refine Vt rfl ?_ | refine Vf rfl ?_ | refine Vi rfl (fun hg => ?_) (fun hg => ?_) | clear hK K)
    rw [List.take_length]
    exact ret_unit (.inl rfl) rfl rfl rfl (fun j _ => by rw [txO_upd])
theorem c_list_f (kb ko : Nat) (hne : kb ≠ ko) (gf : FuncId) (caps : List AV) (hB : hasBody Try.prog gf = True) (l : List (Int × Int)) (enc : Int × Int → List UInt8) (A : List UInt8) (hl : l.length ≤ 1000000) (hb : A.length + (encL enc l).length ≤ 1000000)
    (hp : ∀ x, x ∈ l → ∀ B : List UInt8, B.length + (enc x).length ≤ 1000000 → ACall Try.prog gf (jnA x :: caps) [(kb, some (txB B ko)), (ko, some (txR B))] (.tup []) [(kb, txB (B ++ enc x) ko), (ko, txR (B ++ enc x))]) :
    ACall Try.prog 67 [.ptr kb 0, .sl 2 (l.map jnC) .sh, .fn (.func gf) caps] [(kb, some (txB A ko)), (ko, some (txR A))] (.tup []) [(kb, txB (A ++ encL enc l) ko), (ko, txR (A ++ encL enc l))] := by
  unfold encL at hb ⊢
  rw [List.length_append] at hb
  obtain ⟨C, hC⟩ : ∃ C, C = A ++ putZ (l.length : Int) := ⟨_, rfl⟩
  have hCl : C.length = A.length + (putZ (l.length : Int)).length := by rw [hC, List.length_append]
  rw [← List.append_assoc, ← hC]
  have ct := c_tput1 kb ko hne A (l.length : Int) (by omega)
  rw [← hC] at ct
  refine acall_of 1 Try.func67 rfl fun n out _ _ => ?_
  simp only [Try.ntmps67, List.length_cons, List.length_nil, List.length_map, List.length_replicate, rep_map, Nat.reduceAdd, Nat.reduceSub, List.replicate, List.cons_append, List.nil_append]
  rename_i hneeds hgv
  obtain ⟨hk, hko, _⟩ := hneeds
  obtain ⟨hkn, hkon, _⟩ := hgv
  repeat' (first | (with_reducible first | refine Vk fun K hK => ?_ | refine V0 ?_ | refine Vb ?_ | refine Vc ?_ | refine Vr ?_ | refine Vs ?_ | apply And.intro) | ((with_reducible first | refine gE ?_ | refine gR ?_); simp (maxSteps:=9^7) only [ss, tab, reduceCtorEq, reduceIte, Nat.reduceEqDiff, Nat.reduceBEq, Int.reduceLE, Int.reduceToNat, Nat.reduceAdd, Nat.reduceLT, Nat.reduceLeDiff, lit1, List.length_map, lk_out hkn, lk_out hkon, dm_out hkn, dm_out hkon, nx_outs hkn, nx_outs hkon]) | exact Vn | ((with_reducible refine Vz ?_); refine ret_unit (.inr rfl) rfl rfl rfl (fun _ _ => rfl) <;> first | rfl | skip) | (refine call_two ct (by rw [lk_out hkn]; exact hk) (by rw [lk_out hkon]; exact hko) (by rw [dm_out hkn]; trivial) (by rw [dm_out hkon]; trivial) (by simp) (by simp) ?_) | ((with_reducible refine Vx ?_); simp only [sb, reduceIte, Nat.reduceEqDiff]) | (refine hK _ ?_; clear hK K) | refine Vt rfl ?_ | refine Vf rfl ?_ | refine Vi rfl (fun hg => ?_) (fun hg => ?_) | clear hK K)
  have e0 : txO out kb ko (C ++ (l.take 0).flatMap enc) = upd1 (upd1 out kb (txB C ko)) ko (txR C) := by rw [List.take_zero, List.flatMap_nil, List.append_nil]; rfl
  refine awp_block ?_
  refine awp_for_mv (fun m (i : Nat) => [(15, i64 (i : Int)), (7, .top), (16, .top), (17, .top), (18, .top), (19, .top), (20, .top), (21, .top), (22, .top)]) (fun m i => [none]) (fun i => txO out kb ko (C ++ (l.take i).flatMap enc)) (fun i => i ≤ l.length) (fun i => l.length - i) 0 (Nat.zero_le _) ?_ fun m i hm hi => ?_
  · refine le_of_all ?_ ?_ (by first | rfl | (simp only [e0, List.length_map]; rfl) | simp only [e0, List.length_map]) rfl rfl rfl <;> simp only [patch, sl, e0, List.length_map]
  simp only [patch, s_0, s_s]
  have hw := addw (n := i) 1 1 rfl (by omega)
  by_cases hlt : i < l.length
  · have gi := getD_map jnC l i [] hlt
    have hfl := flat_pre enc l (i + 1)
    rw [flat_step enc l i hlt, List.length_append] at hfl
    obtain ⟨B, hB'⟩ : ∃ B, B = C ++ (l.take i).flatMap enc := ⟨_, rfl⟩
    have hB2 : C ++ (l.take (i + 1)).flatMap enc = B ++ enc l[i] := by rw [flat_step enc l i hlt, hB', List.append_assoc]
    have b1 : B.length + (enc l[i]).length ≤ 1000000 := by rw [hB', List.length_append]; omega
    have cp := hp l[i] (List.getElem_mem hlt) B b1
    rw [← hB']
    repeat' (first | (with_reducible first | refine Vk fun K hK => ?_ | refine V0 ?_ | refine Vb ?_ | refine Vc ?_ | refine Vr ?_ | refine Vs ?_ | apply And.intro) | ((with_reducible first | refine gE ?_ | refine gR ?_); simp (maxSteps:=9^7) only [ss, evLit, tab, reduceCtorEq, reduceIte, Nat.reduceEqDiff, Nat.reduceBEq, Int.reduceLE, Int.reduceToNat, Nat.reduceAdd, Nat.reduceLT, Nat.reduceLeDiff, locM hm, hB, gi, jnC, hlt, List.length_map, lk_out hkn, lk_out hkon, dm_out hkn, dm_out hkon, nx_outs hkn, nx_outs hkon, txO_set, splice_all, hw]) | exact Vn | ((with_reducible refine Vz ?_); refine ret_unit (.inr rfl) rfl rfl rfl (fun _ _ => rfl) <;> first | rfl | skip) | (refine call_two cp (by rw [lk_out hkn]; exact txO_b hne B) (by rw [lk_out hkon]; exact txO_o B) (by rw [dm_out hkn]; trivial) (by rw [dm_out hkon]; trivial) (by simp) (by simp) ?_) | ((with_reducible refine Vx ?_); simp only [sb, reduceIte, Nat.reduceEqDiff]) | (refine hK _ ?_; clear hK K) | refine Vt rfl ?_ | refine Vf rfl ?_ | refine Vi rfl (fun hg => ?_) (fun hg => ?_) | clear hK K)
    refine ⟨i + 1, by omega, by omega, ?_⟩
    rw [hB2]
    refine le_move [false] (fun n_ => ?_) (fun n_ => ?_) <;> simp only [patch, sm]
  · obtain rfl : i = l.length := by omega
    repeat' (first | (with_reducible first | refine Vk fun K hK => ?_ | refine V0 ?_ | refine Vb ?_ | refine Vc ?_ | refine Vr ?_ | refine Vs ?_ | apply And.intro) | ((with_reducible first | refine gE ?_ | refine gR ?_); simp (maxSteps:=9^7) only [ss, evLit, tab, reduceCtorEq, reduceIte, Nat.reduceEqDiff, Nat.reduceBEq, Int.reduceLE, Int.reduceToNat, Nat.reduceAdd, Nat.reduceLT, Nat.reduceLeDiff, hlt, List.length_map]) | exact Vn | ((with_reducible refine Vz ?_); refine ret_unit (.inr rfl) rfl rfl rfl (fun _ _ => rfl) <;> first | rfl | skip) | ((with_reducible refine Vx ?_); simp only [sb, reduceIte, Nat.reduceEqDiff]) | (refine hK _ ?_; clear hK K) | refine Vt rfl ?_ | refine Vf rfl ?_ | refine Vi rfl (fun hg => ?_) (fun hg => ?_) | clear hK K)
    rw [List.take_length]
    exact ret_unit (.inl rfl) rfl rfl rfl (fun j _ => by rw [txO_upd])
theorem c_list_i (kb ko : Nat) (hne : kb ≠ ko) (gf : FuncId) (caps : List AV) (hB : hasBody Try.prog gf = True) (l : List (Int)) (enc : Int → List UInt8) (A : List UInt8) (hl : l.length ≤ 1000000) (hb : A.length + (encL enc l).length ≤ 1000000)
    (hp : ∀ x, x ∈ l → ∀ B : List UInt8, B.length + (enc x).length ≤ 1000000 → ACall Try.prog gf (i64 x :: caps) [(kb, some (txB B ko)), (ko, some (txR B))] (.tup []) [(kb, txB (B ++ enc x) ko), (ko, txR (B ++ enc x))]) :
    ACall Try.prog 66 [.ptr kb 0, .sl 1 (l.map intC) .sh, .fn (.func gf) caps] [(kb, some (txB A ko)), (ko, some (txR A))] (.tup []) [(kb, txB (A ++ encL enc l) ko), (ko, txR (A ++ encL enc l))] := by
  unfold encL at hb ⊢
  rw [List.length_append] at hb
  obtain ⟨C, hC⟩ : ∃ C, C = A ++ putZ (l.length : Int) := ⟨_, rfl⟩
  have hCl : C.length = A.length + (putZ (l.length : Int)).length := by rw [hC, List.length_append]
  rw [← List.append_assoc, ← hC]
  have ct := c_tput1 kb ko hne A (l.length : Int) (by omega)
  rw [← hC] at ct
  refine acall_of 0 Try.func66 rfl fun n out _ _ => ?_
  simp only [Try.ntmps66, List.length_cons, List.length_nil, List.length_map, List.length_replicate, rep_map, Nat.reduceAdd, Nat.reduceSub, List.replicate, List.cons_append, List.nil_append]
  rename_i hneeds hgv
  obtain ⟨hk, hko, _⟩ := hneeds
  obtain ⟨hkn, hkon, _⟩ := hgv
  repeat' (first | (with_reducible first | refine Vk fun K hK => ?_ | refine V0 ?_ | refine Vb ?_ | refine Vc ?_ | refine Vr ?_ | refine Vs ?_ | apply And.intro) | ((with_reducible first | refine gE ?_ | refine gR ?_); simp (maxSteps:=9^7) only [ss, tab, reduceCtorEq, reduceIte, Nat.reduceEqDiff, Nat.reduceBEq, Int.reduceLE, Int.reduceToNat, Nat.reduceAdd, Nat.reduceLT, Nat.reduceLeDiff, lit1, List.length_map, lk_out hkn, lk_out hkon, dm_out hkn, dm_out hkon, nx_outs hkn, nx_outs hkon]) | exact Vn | ((with_reducible refine Vz ?_); refine ret_unit (.inr rfl) rfl rfl rfl (fun _ _ => rfl) <;> first | rfl | skip) | (refine call_two ct (by rw [lk_out hkn]; exact hk) (by rw [lk_out hkon]; exact hko) (by rw [dm_out hkn]; trivial) (by rw [dm_out hkon]; trivial) (by simp) (by simp) ?_) | ((with_reducible refine Vx ?_); simp only [sb, reduceIte, Nat.reduceEqDiff]) | (refine hK _ ?_; clear hK K) | refine Vt rfl ?_ | refine Vf rfl ?_ | refine Vi rfl (fun hg => ?_) (fun hg => ?_) | clear hK K)
  have e0 : txO out kb ko (C ++ (l.take 0).flatMap enc) = upd1 (upd1 out kb (txB C ko)) ko (txR C) := by rw [List.take_zero, List.flatMap_nil, List.append_nil]; rfl
  refine awp_block ?_
  refine awp_for_g (fun i : Nat => [(15, i64 (i : Int)), (7, .top), (16, .top), (17, .top), (18, .top), (19, .top), (20, .top), (21, .top), (22, .top)]) (fun i => []) (fun i => txO out kb ko (C ++ (l.take i).flatMap enc)) (fun i => i ≤ l.length) (fun i => l.length - i) 0 (Nat.zero_le _) ?_ fun i hi => ?_
  · refine le_of_all ?_ ?_ (by first | rfl | (simp only [e0, List.length_map]; rfl) | simp only [e0, List.length_map]) rfl rfl rfl <;> simp only [patch, sl, e0, List.length_map]
  simp only [patch, s_0, s_s]
  have hw := addw (n := i) 1 1 rfl (by omega)
  by_cases hlt : i < l.length
  · have gi := getD_map intC l i [] hlt
    have hfl := flat_pre enc l (i + 1)
    rw [flat_step enc l i hlt, List.length_append] at hfl
    obtain ⟨B, hB'⟩ : ∃ B, B = C ++ (l.take i).flatMap enc := ⟨_, rfl⟩
    have hB2 : C ++ (l.take (i + 1)).flatMap enc = B ++ enc l[i] := by rw [flat_step enc l i hlt, hB', List.append_assoc]
    have b1 : B.length + (enc l[i]).length ≤ 1000000 := by rw [hB', List.length_append]; omega
    have cp := hp l[i] (List.getElem_mem hlt) B b1
    rw [← hB']
    repeat' (first | (with_reducible first | refine Vk fun K hK => ?_ | refine V0 ?_ | refine Vb ?_ | refine Vc ?_ | refine Vr ?_ | refine Vs ?_ | apply And.intro) | ((with_reducible first | refine gE ?_ | refine gR ?_); simp (maxSteps:=9^7) only [ss, evLit, tab, reduceCtorEq, reduceIte, Nat.reduceEqDiff, Nat.reduceBEq, Int.reduceLE, Int.reduceToNat, Nat.reduceAdd, Nat.reduceLT, Nat.reduceLeDiff, hB, gi, intC, hlt, List.length_map, lk_out hkn, lk_out hkon, dm_out hkn, dm_out hkon, nx_outs hkn, nx_outs hkon, txO_set, splice_all, hw]) | exact Vn | ((with_reducible refine Vz ?_); refine ret_unit (.inr rfl) rfl rfl rfl (fun _ _ => rfl) <;> first | rfl | skip) | (refine call_two cp (by rw [lk_out hkn]; exact txO_b hne B) (by rw [lk_out hkon]; exact txO_o B) (by rw [dm_out hkn]; trivial) (by rw [dm_out hkon]; trivial) (by simp) (by simp) ?_) | ((with_reducible refine Vx ?_); simp only [sb, reduceIte, Nat.reduceEqDiff]) | (refine hK _ ?_; clear hK K) | refine Vt rfl ?_ | refine Vf rfl ?_ | refine Vi rfl (fun hg => ?_) (fun hg => ?_) | clear hK K)
    refine ⟨i + 1, by omega, by omega, ?_⟩
    rw [hB2]
    refine le_of_all ?_ ?_ rfl rfl rfl rfl <;> simp only [patch, sl, List.length_map, hlt, decide_true]
  · obtain rfl : i = l.length := by omega
    repeat' (first | (with_reducible first | refine Vk fun K hK => ?_ | refine V0 ?_ | refine Vb ?_ | refine Vc ?_ | refine Vr ?_ | refine Vs ?_ | apply And.intro) | ((with_reducible first | refine gE ?_ | refine gR ?_); simp (maxSteps:=9^7) only [ss, evLit, tab, reduceCtorEq, reduceIte, Nat.reduceEqDiff, Nat.reduceBEq, Int.reduceLE, Int.reduceToNat, Nat.reduceAdd, Nat.reduceLT, Nat.reduceLeDiff, hlt, List.length_map]) | exact Vn | ((with_reducible refine Vz ?_); refine ret_unit (.inr rfl) rfl rfl rfl (fun _ _ => rfl) <;> first | rfl | skip) | ((with_reducible refine Vx ?_); simp only [sb, reduceIte, Nat.reduceEqDiff]) | (refine hK _ ?_; clear hK K) | refine Vt rfl ?_ | refine Vf rfl ?_ | refine Vi rfl (fun hg => ?_) (fun hg => ?_) | clear hK K)
    rw [List.take_length]
    exact ret_unit (.inl rfl) rfl rfl rfl (fun j _ => by rw [txO_upd])
theorem c_list_r (kb ko kn : Nat) (hne : kb ≠ ko) (n1 : kn ≠ kb) (n2 : kn ≠ ko) (R : Res) (hR : R ≠ .dead) (gf : FuncId) (caps : List AV) (hB : hasBody Try.prog gf = True) (l : List (Rt)) (enc : Rt → List UInt8) (A : List UInt8) (hl : l.length ≤ 1000000) (hb : A.length + (encL enc l).length ≤ 1000000)
    (hp : ∀ x, x ∈ l → ∀ B : List UInt8, B.length + (enc x).length ≤ 1000000 → ACall Try.prog gf (rtA x :: caps) [(kb, some (txB B ko)), (ko, some (txR B)), (kn, some R)] (.tup []) [(kb, txB (B ++ enc x) ko), (ko, txR (B ++ enc x))]) :
    ACall Try.prog 64 [.ptr kb 0, .sl 7 (l.map rtC) .sh, .fn (.func gf) caps] [(kb, some (txB A ko)), (ko, some (txR A)), (kn, some R)] (.tup []) [(kb, txB (A ++ encL enc l) ko), (ko, txR (A ++ encL enc l))] := by
  unfold encL at hb ⊢
  rw [List.length_append] at hb
  obtain ⟨C, hC⟩ : ∃ C, C = A ++ putZ (l.length : Int) := ⟨_, rfl⟩
  have hCl : C.length = A.length + (putZ (l.length : Int)).length := by rw [hC, List.length_append]
  rw [← List.append_assoc, ← hC]
  have ct := c_tput1 kb ko hne A (l.length : Int) (by omega)
  rw [← hC] at ct
  refine acall_of' 1 Try.func64 rfl fun n out _ _ _ => ?_
  simp only [Try.ntmps64, List.length_cons, List.length_nil, List.length_map, List.length_replicate, rep_map, Nat.reduceAdd, Nat.reduceSub, List.replicate, List.cons_append, List.nil_append]
  rename_i hneeds hgv hz
  obtain ⟨hk, hko, hkr, _⟩ := hneeds
  have hknn : kn < n := by
    rcases Nat.lt_or_ge kn n with h | h
    · exact h
    · rw [hz kn h] at hkr; cases hkr
  obtain ⟨hkn, hkon, _⟩ := hgv
  repeat' (first | (with_reducible first | refine Vk fun K hK => ?_ | refine V0 ?_ | refine Vb ?_ | refine Vc ?_ | refine Vr ?_ | refine Vs ?_ | apply And.intro) | ((with_reducible first | refine gE ?_ | refine gR ?_); simp (maxSteps:=9^7) only [ss, tab, reduceCtorEq, reduceIte, Nat.reduceEqDiff, Nat.reduceBEq, Int.reduceLE, Int.reduceToNat, Nat.reduceAdd, Nat.reduceLT, Nat.reduceLeDiff, lit1, List.length_map, lk_out hkn, lk_out hkon, dm_out hkn, dm_out hkon, nx_outs hkn, nx_outs hkon]) | exact Vn | ((with_reducible refine Vz ?_); refine ret_unit (.inr rfl) rfl rfl rfl (fun _ _ => rfl) <;> first | rfl | skip) | (refine call_two ct (by rw [lk_out hkn]; exact hk) (by rw [lk_out hkon]; exact hko) (by rw [dm_out hkn]; trivial) (by rw [dm_out hkon]; trivial) (by simp) (by simp) ?_) | ((with_reducible refine Vx ?_); simp only [sb, reduceIte, Nat.reduceEqDiff]) | (refine hK _ ?_; clear hK K) | refine Vt rfl ?_ | refine Vf rfl ?_ | refine Vi rfl (fun hg => ?_) (fun hg => ?_) | clear hK K)
  have e0 : txO out kb ko (C ++ (l.take 0).flatMap enc) = upd1 (upd1 out kb (txB C ko)) ko (txR C) := by rw [List.take_zero, List.flatMap_nil, List.append_nil]; rfl
  refine awp_block ?_
  refine awp_for_mv (fun m (i : Nat) => [(15, i64 (i : Int)), (7, .top), (16, .top), (17, .top), (18, .top), (19, .top), (20, .top), (21, .top), (22, .top)]) (fun m i => [none]) (fun i => txO out kb ko (C ++ (l.take i).flatMap enc)) (fun i => i ≤ l.length) (fun i => l.length - i) 0 (Nat.zero_le _) ?_ fun m i hm hi => ?_
  · refine le_of_all ?_ ?_ (by first | rfl | (simp only [e0, List.length_map]; rfl) | simp only [e0, List.length_map]) rfl rfl rfl <;> simp only [patch, sl, e0, List.length_map]
  simp only [patch, s_0, s_s]
  have hw := addw (n := i) 1 1 rfl (by omega)
  by_cases hlt : i < l.length
  · have gi := getD_map rtC l i [] hlt
    have hfl := flat_pre enc l (i + 1)
    rw [flat_step enc l i hlt, List.length_append] at hfl
    obtain ⟨B, hB'⟩ : ∃ B, B = C ++ (l.take i).flatMap enc := ⟨_, rfl⟩
    have hB2 : C ++ (l.take (i + 1)).flatMap enc = B ++ enc l[i] := by rw [flat_step enc l i hlt, hB', List.append_assoc]
    have b1 : B.length + (enc l[i]).length ≤ 1000000 := by rw [hB', List.length_append]; omega
    have cp := hp l[i] (List.getElem_mem hlt) B b1
    rw [← hB']
    repeat' (first | (with_reducible first | refine Vk fun K hK => ?_ | refine V0 ?_ | refine Vb ?_ | refine Vc ?_ | refine Vr ?_ | refine Vs ?_ | apply And.intro) | ((with_reducible first | refine gE ?_ | refine gR ?_); simp (maxSteps:=9^7) only [ss, evLit, tab, reduceCtorEq, reduceIte, Nat.reduceEqDiff, Nat.reduceBEq, Int.reduceLE, Int.reduceToNat, Nat.reduceAdd, Nat.reduceLT, Nat.reduceLeDiff, locM hm, hB, gi, rtC, hlt, List.length_map, lk_out hkn, lk_out hkon, dm_out hkn, dm_out hkon, nx_outs hkn, nx_outs hkon, txO_set, splice_all, hw]) | exact Vn | ((with_reducible refine Vz ?_); refine ret_unit (.inr rfl) rfl rfl rfl (fun _ _ => rfl) <;> first | rfl | skip) | (refine call_32 cp (by rw [lk_out hkn]; exact txO_b hne B) (by rw [lk_out hkon]; exact txO_o B) (by rw [lk_out hknn, txO_k n1 n2]; exact hkr) (by rw [dm_out hkn]; trivial) (by rw [dm_out hkon]; trivial) (by rw [dm_out hknn]; trivial) (by simp) (by simp) (by simpa using hR) ?_) | ((with_reducible refine Vx ?_); simp only [sb, reduceIte, Nat.reduceEqDiff]) | (refine hK _ ?_; clear hK K) | refine Vt rfl ?_ | refine Vf rfl ?_ | refine Vi rfl (fun hg => ?_) (fun hg => ?_) | clear hK K)
    refine ⟨i + 1, by omega, by omega, ?_⟩
    rw [hB2]
    refine le_move [false] (fun n_ => ?_) (fun n_ => ?_) <;> simp only [patch, sm]
  · obtain rfl : i = l.length := by omega
    repeat' (first | (with_reducible first | refine Vk fun K hK => ?_ | refine V0 ?_ | refine Vb ?_ | refine Vc ?_ | refine Vr ?_ | refine Vs ?_ | apply And.intro) | ((with_reducible first | refine gE ?_ | refine gR ?_); simp (maxSteps:=9^7) only [ss, evLit, tab, reduceCtorEq, reduceIte, Nat.reduceEqDiff, Nat.reduceBEq, Int.reduceLE, Int.reduceToNat, Nat.reduceAdd, Nat.reduceLT, Nat.reduceLeDiff, hlt, List.length_map]) | exact Vn | ((with_reducible refine Vz ?_); refine ret_unit (.inr rfl) rfl rfl rfl (fun _ _ => rfl) <;> first | rfl | skip) | ((with_reducible refine Vx ?_); simp only [sb, reduceIte, Nat.reduceEqDiff]) | (refine hK _ ?_; clear hK K) | refine Vt rfl ?_ | refine Vf rfl ?_ | refine Vi rfl (fun hg => ?_) (fun hg => ?_) | clear hK K)
    rw [List.take_length]
    exact ret_unit (.inl rfl) rfl rfl rfl (fun j _ => by rw [txO_upd])
end Go.Proofs.Ytgdhnngpfieloaa.Pln
end
section
namespace Go.Proofs.Ytgdhnngpfieloaa.Pln
set_option linter.unusedVariables false
set_option linter.unusedSimpArgs false
open Go Go.VS Tab
set_option maxHeartbeats 8000000
set_option maxRecDepth 4000
theorem evLit_three {T : TypeId → Option TI} {σ : AState} {K : AV → List (Nat × Res) → Prop} {t e : TypeId} {ti te : TI} (ht : T t = some ti) (hd : ti.desc = .slice e) (he : T e = some te) (h1 : te.size = 1) {x y z a b c : AV} (hp : x.parts = some [a]) (hq : y.parts = some [b]) (hr' : z.parts = some [c]) :
    evLit T σ K none t 3 [(0, x), (1, y), (2, z)] = K (.sl 1 [[a], [b], [c]] .full) [] := by
  have hz : (repZero te.zero 3).length = 3 := by simp [repZero]
  obtain ⟨z0, z1, z2, hz2⟩ : ∃ z0 z1 z2, repZero te.zero 3 = [z0, z1, z2] := ⟨_, _, _, rfl⟩
  have hr : afill (fun i => some (i * te.size, te.size)) (repZero te.zero (3 * te.size)) [(0, x), (1, y), (2, z)] = some [a, b, c] := by
    rw [h1, show 3 * 1 = 3 from rfl, hz2]
    simp [afill, hp, hq, hr', splice]
  simp only [evLit, ht, hd, he, hr]
  simp [h1, chunk]
theorem lit3 (a b c : Int) (σ : AState) (K : AV → List (Nat × Res) → Prop) : evLit tab σ K none 52 3 [(0, i64 a), (1, i64 b), (2, i64 c)] = K (.sl 1 [[i64 a], [i64 b], [i64 c]] .full) [] := evLit_three (T := tab) (ti := ti52) (te := ti3) rfl rfl rfl rfl rfl rfl rfl
theorem ret_txt {P : Program} {n : Nat} {fn : Func} {out : Nat → Option Res} {gives : List (Nat × Res)} {σ : AState} (hr : fn.results = #[]) (hd : σ.df = []) (h0 : σ.n0 = n) (ho : σ.out = upd out gives) : retPost P n fn out gives (.tup []) .normal σ :=
  ret_unit (.inl rfl) hr hd h0 (fun k _ => by rw [ho])
theorem c_putN (kb ko : Nat) (hne : kb ≠ ko) (a : Int) (A : List UInt8) (hb : A.length + (putZ a).length ≤ 1000000) :
    ACall Try.prog 56 [i64 a, .ptr kb 0] [(kb, some (txB A ko)), (ko, some (txR A))] (.tup []) [(kb, txB (A ++ putZ a) ko), (ko, txR (A ++ putZ a))] := by
  have ct := c_tput1 kb ko hne A a hb
  refine acall_of 0 Try.func56 rfl fun n out _ _ => ?_
  simp only [Try.ntmps56, List.length_cons, List.length_nil, List.length_map, List.length_replicate, rep_map, Nat.reduceAdd, Nat.reduceSub, List.replicate, List.cons_append, List.nil_append]
  rename_i hneeds hgv
  obtain ⟨hk, hko, _⟩ := hneeds
  obtain ⟨hkn, hkon, _⟩ := hgv
  repeat' (first | (with_reducible first | refine Vk fun K hK => ?_ | refine V0 ?_ | refine Vs ?_ | apply And.intro) | ((with_reducible first | refine gE ?_ | refine gR ?_); simp (maxSteps:=9^7) only [ss, tab, reduceCtorEq, reduceIte, Nat.reduceEqDiff, Nat.reduceBEq, Int.reduceLE, Int.reduceToNat, Nat.reduceAdd, Nat.reduceLT, Nat.reduceLeDiff, lit1, lk_out hkn, lk_out hkon, dm_out hkn, dm_out hkon, nx_outs hkn, nx_outs hkon]) | exact Vn | ((with_reducible refine Vz ?_); refine ret_unit (.inr rfl) rfl rfl rfl (fun _ _ => rfl) <;> first | rfl | skip) | (refine call_two ct (by rw [lk_out hkn]; exact hk) (by rw [lk_out hkon]; exact hko) (by rw [dm_out hkn]; trivial) (by rw [dm_out hkon]; trivial) (by simp) (by simp) ?_) | (refine hK _ ?_; clear hK K) | clear hK K)
  exact ret_txt rfl rfl rfl rfl
theorem c_putP (kb ko : Nat) (hne : kb ≠ ko) (x : Int × Int) (A : List UInt8) (hb : A.length + (encJ x).length ≤ 1000000) :
    ACall Try.prog 61 [jnA x, .ptr kb 0] [(kb, some (txB A ko)), (ko, some (txR A))] (.tup []) [(kb, txB (A ++ encJ x) ko), (ko, txR (A ++ encJ x))] := by
  have ct := c_tput2 kb ko hne A x.1 x.2 hb
  refine acall_of 1 Try.func61 rfl fun n out _ _ => ?_
  simp only [Try.ntmps61, List.length_cons, List.length_nil, List.length_map, List.length_replicate, rep_map, Nat.reduceAdd, Nat.reduceSub, List.replicate, List.cons_append, List.nil_append]
  rename_i hneeds hgv
  obtain ⟨hk, hko, _⟩ := hneeds
  obtain ⟨hkn, hkon, _⟩ := hgv
  repeat' (first | (with_reducible first | refine Vk fun K hK => ?_ | refine V0 ?_ | refine Vs ?_ | apply And.intro) | ((with_reducible first | refine gE ?_ | refine gR ?_); simp (maxSteps:=9^7) only [ss, tab, reduceCtorEq, reduceIte, Nat.reduceEqDiff, Nat.reduceBEq, Int.reduceLE, Int.reduceToNat, Nat.reduceAdd, Nat.reduceLT, Nat.reduceLeDiff, lit2, jnA, jnC, splice_all, lk_out hkn, lk_out hkon, dm_out hkn, dm_out hkon, nx_outs hkn, nx_outs hkon]) | exact Vn | ((with_reducible refine Vz ?_); refine ret_unit (.inr rfl) rfl rfl rfl (fun _ _ => rfl) <;> first | rfl | skip) | (refine call_two ct (by rw [lk_out hkn]; exact hk) (by rw [lk_out hkon]; exact hko) (by rw [dm_out hkn]; trivial) (by rw [dm_out hkon]; trivial) (by simp) (by simp) ?_) | (refine hK _ ?_; clear hK K) | clear hK K)
  exact ret_txt rfl rfl rfl rfl
theorem c_putF (kb ko : Nat) (hne : kb ≠ ko) (x : Int × Int) (A : List UInt8) (hb : A.length + (encJ x).length ≤ 1000000) :
    ACall Try.prog 68 [jnA x, .ptr kb 0] [(kb, some (txB A ko)), (ko, some (txR A))] (.tup []) [(kb, txB (A ++ encJ x) ko), (ko, txR (A ++ encJ x))] := by
  have ct := c_tput2 kb ko hne A x.1 x.2 hb
  refine acall_of 1 Try.func68 rfl fun n out _ _ => ?_
  simp only [Try.ntmps68, List.length_cons, List.length_nil, List.length_map, List.length_replicate, rep_map, Nat.reduceAdd, Nat.reduceSub, List.replicate, List.cons_append, List.nil_append]
  rename_i hneeds hgv
  obtain ⟨hk, hko, _⟩ := hneeds
  obtain ⟨hkn, hkon, _⟩ := hgv
  repeat' (first | (with_reducible first | refine Vk fun K hK => ?_ | refine V0 ?_ | refine Vs ?_ | apply And.intro) | ((with_reducible first | refine gE ?_ | refine gR ?_); simp (maxSteps:=9^7) only [ss, tab, reduceCtorEq, reduceIte, Nat.reduceEqDiff, Nat.reduceBEq, Int.reduceLE, Int.reduceToNat, Nat.reduceAdd, Nat.reduceLT, Nat.reduceLeDiff, lit2, jnA, jnC, splice_all, lk_out hkn, lk_out hkon, dm_out hkn, dm_out hkon, nx_outs hkn, nx_outs hkon]) | exact Vn | ((with_reducible refine Vz ?_); refine ret_unit (.inr rfl) rfl rfl rfl (fun _ _ => rfl) <;> first | rfl | skip) | (refine call_two ct (by rw [lk_out hkn]; exact hk) (by rw [lk_out hkon]; exact hko) (by rw [dm_out hkn]; trivial) (by rw [dm_out hkon]; trivial) (by simp) (by simp) ?_) | (refine hK _ ?_; clear hK K) | clear hK K)
  exact ret_txt rfl rfl rfl rfl
theorem c_putG (kb ko : Nat) (hne : kb ≠ ko) (x : Int × Int × Int) (A : List UInt8) (hb : A.length + (encG x).length ≤ 1000000) :
    ACall Try.prog 63 [sgA x, .ptr kb 0] [(kb, some (txB A ko)), (ko, some (txR A))] (.tup []) [(kb, txB (A ++ encG x) ko), (ko, txR (A ++ encG x))] := by
  have ct := c_tput3 kb ko hne A x.1 x.2.1 x.2.2 hb
  refine acall_of 1 Try.func63 rfl fun n out _ _ => ?_
  simp only [Try.ntmps63, List.length_cons, List.length_nil, List.length_map, List.length_replicate, rep_map, Nat.reduceAdd, Nat.reduceSub, List.replicate, List.cons_append, List.nil_append]
  rename_i hneeds hgv
  obtain ⟨hk, hko, _⟩ := hneeds
  obtain ⟨hkn, hkon, _⟩ := hgv
  repeat' (first | (with_reducible first | refine Vk fun K hK => ?_ | refine V0 ?_ | refine Vs ?_ | apply And.intro) | ((with_reducible first | refine gE ?_ | refine gR ?_); simp (maxSteps:=9^7) only [ss, tab, reduceCtorEq, reduceIte, Nat.reduceEqDiff, Nat.reduceBEq, Int.reduceLE, Int.reduceToNat, Nat.reduceAdd, Nat.reduceLT, Nat.reduceLeDiff, lit3, sgA, sgC, splice_all, lk_out hkn, lk_out hkon, dm_out hkn, dm_out hkon, nx_outs hkn, nx_outs hkon]) | exact Vn | ((with_reducible refine Vz ?_); refine ret_unit (.inr rfl) rfl rfl rfl (fun _ _ => rfl) <;> first | rfl | skip) | (refine call_two ct (by rw [lk_out hkn]; exact hk) (by rw [lk_out hkon]; exact hko) (by rw [dm_out hkn]; trivial) (by rw [dm_out hkon]; trivial) (by simp) (by simp) ?_) | (refine hK _ ?_; clear hK K) | clear hK K)
  exact ret_txt rfl rfl rfl rfl
theorem c_putS (kb ko : Nat) (hne : kb ≠ ko) (s : Sec) (A : List UInt8) (hb : A.length + (encS s).length ≤ 1000000) (hl : s.ends.length ≤ 1000000) :
    ACall Try.prog 59 [secA s, .ptr kb 0] [(kb, some (txB A ko)), (ko, some (txR A))] (.tup []) [(kb, txB (A ++ encS s) ko), (ko, txR (A ++ encS s))] := by
  unfold encS at hb ⊢
  rw [List.length_append, List.length_append] at hb
  have ct := c_tput2 kb ko hne A s.id s.pt (by rw [List.length_append]; omega)
  obtain ⟨C, hC⟩ : ∃ C, C = A ++ (putZ s.id ++ putZ s.pt) := ⟨_, rfl⟩
  have hCl : C.length = A.length + ((putZ s.id).length + (putZ s.pt).length) := by rw [hC, List.length_append, List.length_append]
  rw [← hC] at ct
  have hC2 : A ++ (putZ s.id ++ (putZ s.pt ++ s.ends.flatMap encJ)) = C ++ s.ends.flatMap encJ := by rw [hC, List.append_assoc, List.append_assoc]
  rw [hC2]
  refine acall_of 2 Try.func59 rfl fun n out _ _ => ?_
  simp only [Try.ntmps59, List.length_cons, List.length_nil, List.length_map, List.length_replicate, rep_map, Nat.reduceAdd, Nat.reduceSub, List.replicate, List.cons_append, List.nil_append]
  rename_i hneeds hgv
  obtain ⟨hk, hko, _⟩ := hneeds
  obtain ⟨hkn, hkon, _⟩ := hgv
  repeat' (first | (with_reducible first | refine Vk fun K hK => ?_ | refine V0 ?_ | refine Vb ?_ | refine Vc ?_ | refine Vr ?_ | refine Vs ?_ | apply And.intro) | ((with_reducible first | refine gE ?_ | refine gR ?_); simp (maxSteps:=9^7) only [ss, tab, reduceCtorEq, reduceIte, Nat.reduceEqDiff, Nat.reduceBEq, Int.reduceLE, Int.reduceToNat, Nat.reduceAdd, Nat.reduceLT, Nat.reduceLeDiff, lit2, secA, secC, splice_all, List.length_map, lk_out hkn, lk_out hkon, dm_out hkn, dm_out hkon, nx_outs hkn, nx_outs hkon]) | exact Vn | ((with_reducible refine Vz ?_); refine ret_unit (.inr rfl) rfl rfl rfl (fun _ _ => rfl) <;> first | rfl | skip) | (refine call_two ct (by rw [lk_out hkn]; exact hk) (by rw [lk_out hkon]; exact hko) (by rw [dm_out hkn]; trivial) (by rw [dm_out hkon]; trivial) (by simp) (by simp) ?_) | ((with_reducible refine Vx ?_); simp only [sb, reduceIte, Nat.reduceEqDiff]) | (refine hK _ ?_; clear hK K) | refine Vt rfl ?_ | refine Vf rfl ?_ | refine Vi rfl (fun hg => ?_) (fun hg => ?_) | clear hK K)
  have e0 : txO out kb ko (C ++ (s.ends.take 0).flatMap encJ) = upd1 (upd1 out kb (txB C ko)) ko (txR C) := by rw [List.take_zero, List.flatMap_nil, List.append_nil]; rfl
  refine awp_block ?_
  refine awp_for_mv (fun m (i : Nat) => [(14, i64 (i : Int)), (2, .ptr (m + 0) 0), (5, .ptr (m + 0) 0), (7, .ptr (m + 0) 1), (11, .ptr (m + 0) 2), (4, .top), (15, .top), (16, .top), (17, .top), (18, .top), (19, .top), (20, .top), (21, .top), (22, .top), (23, .top), (24, .top)]) (fun m i => [some (.box 59 (secC s)), none]) (fun i => txO out kb ko (C ++ (s.ends.take i).flatMap encJ)) (fun i => i ≤ s.ends.length) (fun i => s.ends.length - i) 0 (Nat.zero_le _) ?_ fun m i hm hi => ?_
  · refine le_of_all ?_ ?_ (by first | rfl | (simp only [e0, List.length_map, secC]; rfl) | simp only [e0, List.length_map, secC]) rfl rfl rfl <;> simp only [patch, sl, e0, List.length_map, secC]
  simp only [patch, s_0, s_s]
  have hw := addw (n := i) 1 1 rfl (by omega)
  by_cases hlt : i < s.ends.length
  · have gi := getD_map jnC s.ends i [] hlt
    have hfl := flat_pre encJ s.ends (i + 1)
    rw [flat_step encJ s.ends i hlt, List.length_append] at hfl
    obtain ⟨B, hB'⟩ : ∃ B, B = C ++ (s.ends.take i).flatMap encJ := ⟨_, rfl⟩
    have hB2 : C ++ (s.ends.take (i + 1)).flatMap encJ = B ++ encJ s.ends[i] := by rw [flat_step encJ s.ends i hlt, hB', List.append_assoc]
    have b1 : B.length + (encJ s.ends[i]).length ≤ 1000000 := by rw [hB', List.length_append]; omega
    have cp := c_tput2 kb ko hne B s.ends[i].1 s.ends[i].2 b1
    rw [← hB']
    repeat' (first | (with_reducible first | refine Vk fun K hK => ?_ | refine V0 ?_ | refine Vb ?_ | refine Vc ?_ | refine Vr ?_ | refine Vs ?_ | apply And.intro) | ((with_reducible first | refine gE ?_ | refine gR ?_); simp (maxSteps:=9^7) only [ss, tab, reduceCtorEq, reduceIte, Nat.reduceEqDiff, Nat.reduceBEq, Int.reduceLE, Int.reduceToNat, Nat.reduceAdd, Nat.reduceLT, Nat.reduceLeDiff, lit2, locM hm, gi, jnC, hlt, List.length_map, lk_out hkn, lk_out hkon, dm_out hkn, dm_out hkon, nx_outs hkn, nx_outs hkon, txO_set, splice_all, hw]) | exact Vn | ((with_reducible refine Vz ?_); refine ret_unit (.inr rfl) rfl rfl rfl (fun _ _ => rfl) <;> first | rfl | skip) | (refine call_two cp (by rw [lk_out hkn]; exact txO_b hne B) (by rw [lk_out hkon]; exact txO_o B) (by rw [dm_out hkn]; trivial) (by rw [dm_out hkon]; trivial) (by simp) (by simp) ?_) | ((with_reducible refine Vx ?_); simp only [sb, reduceIte, Nat.reduceEqDiff]) | (refine hK _ ?_; clear hK K) | refine Vt rfl ?_ | refine Vf rfl ?_ | refine Vi rfl (fun hg => ?_) (fun hg => ?_) | clear hK K)
    refine ⟨i + 1, by omega, by omega, ?_⟩
    rw [hB2]
    unfold encJ
    refine le_move [true, false] (fun n_ => ?_) (fun n_ => ?_) <;> simp only [patch, sm, secC]
  · obtain rfl : i = s.ends.length := by omega
    repeat' (first | (with_reducible first | refine Vk fun K hK => ?_ | refine V0 ?_ | refine Vb ?_ | refine Vc ?_ | refine Vr ?_ | refine Vs ?_ | apply And.intro) | ((with_reducible first | refine gE ?_ | refine gR ?_); simp (maxSteps:=9^7) only [ss, evLit, tab, reduceCtorEq, reduceIte, Nat.reduceEqDiff, Nat.reduceBEq, Int.reduceLE, Int.reduceToNat, Nat.reduceAdd, Nat.reduceLT, Nat.reduceLeDiff, hlt, List.length_map]) | exact Vn | ((with_reducible refine Vz ?_); refine ret_unit (.inr rfl) rfl rfl rfl (fun _ _ => rfl) <;> first | rfl | skip) | ((with_reducible refine Vx ?_); simp only [sb, reduceIte, Nat.reduceEqDiff]) | (refine hK _ ?_; clear hK K) | refine Vt rfl ?_ | refine Vf rfl ?_ | refine Vi rfl (fun hg => ?_) (fun hg => ?_) | clear hK K)
    rw [List.take_length]
    exact ret_txt rfl rfl rfl (txO_upd _ _ _ _).symm
theorem c_putR (kb ko kn : Nat) (hne : kb ≠ ko) (n1 : kn ≠ kb) (n2 : kn ≠ ko) (r : Rt) (A : List UInt8) (hb : A.length + (encR r).length ≤ 1000000) (l1 : r.path.length ≤ 1000000) (l2 : r.over.length ≤ 1000000) (l3 : r.flanks.length ≤ 1000000) :
    ACall Try.prog 65 [rtA r, .ptr kb 0, .ptr kn 0] [(kb, some (txB A ko)), (ko, some (txR A)), (kn, some (.box 109 [.fn (.func 56) [.ptr kb 0]]))] (.tup []) [(kb, txB (A ++ encR r) ko), (ko, txR (A ++ encR r))] := by
  unfold encR at hb ⊢
  rw [List.length_append, List.length_append, List.length_append, List.length_append, List.length_append, List.length_append] at hb
  have hB0 : hasBody Try.prog 56 = True := hb0 _ (by decide) (by decide)
  have hBf : hasBody Try.prog 68 = True := hb0 _ (by decide) (by decide)
  obtain ⟨C1, h1⟩ : ∃ C, C = A ++ (putZ r.id ++ (putZ r.entry ++ putZ r.ex)) := ⟨_, rfl⟩
  obtain ⟨C2, h2⟩ : ∃ C, C = C1 ++ encL putZ r.path := ⟨_, rfl⟩
  obtain ⟨C3, h3⟩ : ∃ C, C = C2 ++ encL putZ r.over := ⟨_, rfl⟩
  obtain ⟨C4, h4⟩ : ∃ C, C = C3 ++ encL encJ r.flanks := ⟨_, rfl⟩
  have k1 : C1.length = A.length + ((putZ r.id).length + ((putZ r.entry).length + (putZ r.ex).length)) := by rw [h1]; simp [List.length_append]
  have k2 : C2.length = C1.length + (encL putZ r.path).length := by rw [h2, List.length_append]
  have k3 : C3.length = C2.length + (encL putZ r.over).length := by rw [h3, List.length_append]
  have k4 : C4.length = C3.length + (encL encJ r.flanks).length := by rw [h4, List.length_append]
  have e : A ++ (putZ r.id ++ (putZ r.entry ++ (putZ r.ex ++ (encL putZ r.path ++ (encL putZ r.over ++ (encL encJ r.flanks ++ putZ r.timer)))))) = C4 ++ putZ r.timer := by rw [h4, h3, h2, h1]; simp [List.append_assoc]
  have c1 := c_tput3 kb ko hne A r.id r.entry r.ex (by simp only [List.length_append]; omega)
  have c2 := c_list_i kb ko hne 56 [.ptr kb 0] hB0 r.path putZ C1 l1 (by omega) fun x _ B hB => c_putN kb ko hne x B hB
  have c3 := c_list_i kb ko hne 56 [.ptr kb 0] hB0 r.over putZ C2 l2 (by omega) fun x _ B hB => c_putN kb ko hne x B hB
  have c4 := c_list_f kb ko hne 68 [.ptr kb 0] hBf r.flanks encJ C3 l3 (by omega) fun x _ B hB => c_putF kb ko hne x B hB
  have c5 := c_tput1 kb ko hne C4 r.timer (by omega)
  rw [← h1] at c1
  rw [← h2] at c2
  rw [← h3] at c3
  rw [← h4] at c4
  rw [e]
  clear h1 h2 h3 h4 k1 k2 k3 k4 hb e hB0 hBf
  refine acall_of' 1 Try.func65 rfl fun n out _ _ _ => ?_
  simp only [Try.ntmps65, List.length_cons, List.length_nil, List.length_map, List.length_replicate, rep_map, Nat.reduceAdd, Nat.reduceSub, List.replicate, List.cons_append, List.nil_append]
  rename_i hneeds hgv hz
  obtain ⟨hk, hko, hkr, _⟩ := hneeds
  obtain ⟨hkn, hkon, _⟩ := hgv
  have hknn : kn < n := by
    rcases Nat.lt_or_ge kn n with h | h
    · exact h
    · rw [hz kn h] at hkr; cases hkr
  rw [← txO_self hk hko]
  have hkr' : ∀ B, txO out kb ko B kn = some (.box 109 [.fn (.func 56) [.ptr kb 0]]) := fun B => by rw [txO_k n1 n2]; exact hkr
  repeat' (first | (with_reducible first | refine Vk fun K hK => ?_ | refine V0 ?_ | refine Vs ?_ | apply And.intro) | ((with_reducible first | refine gE ?_ | refine gR ?_); simp (maxSteps:=9^7) only [ss, tab, reduceCtorEq, reduceIte, Nat.reduceEqDiff, Nat.reduceBEq, Int.reduceLE, Int.reduceToNat, Nat.reduceAdd, Nat.reduceLT, Nat.reduceLeDiff, lit1, lit3, rtA, rtC, hkr', lk_out hknn, dm_out hknn, lk_out hkn, lk_out hkon, dm_out hkn, dm_out hkon, nx_outs hkn, nx_outs hkon, txO_set, splice_all]) | exact Vn | ((with_reducible refine Vz ?_); refine ret_unit (.inr rfl) rfl rfl rfl (fun _ _ => rfl) <;> first | rfl | skip) | (refine call_two c1 (by rw [lk_out hkn]; exact txO_b hne _) (by rw [lk_out hkon]; exact txO_o _) (by rw [dm_out hkn]; trivial) (by rw [dm_out hkon]; trivial) (by simp) (by simp) ?_) | (refine call_two c2 (by rw [lk_out hkn]; exact txO_b hne _) (by rw [lk_out hkon]; exact txO_o _) (by rw [dm_out hkn]; trivial) (by rw [dm_out hkon]; trivial) (by simp) (by simp) ?_) | (refine call_two c3 (by rw [lk_out hkn]; exact txO_b hne _) (by rw [lk_out hkon]; exact txO_o _) (by rw [dm_out hkn]; trivial) (by rw [dm_out hkon]; trivial) (by simp) (by simp) ?_) | (refine call_two c4 (by rw [lk_out hkn]; exact txO_b hne _) (by rw [lk_out hkon]; exact txO_o _) (by rw [dm_out hkn]; trivial) (by rw [dm_out hkon]; trivial) (by simp) (by simp) ?_) | (refine call_two c5 (by rw [lk_out hkn]; exact txO_b hne _) (by rw [lk_out hkon]; exact txO_o _) (by rw [dm_out hkn]; trivial) (by rw [dm_out hkon]; trivial) (by simp) (by simp) ?_) | (refine hK _ ?_; clear hK K) | clear hK K)
  exact ret_txt rfl rfl rfl (by rw [txO_upd]; exact (txO_set _ _ _ _ _).symm)
end Go.Proofs.Ytgdhnngpfieloaa.Pln
end
