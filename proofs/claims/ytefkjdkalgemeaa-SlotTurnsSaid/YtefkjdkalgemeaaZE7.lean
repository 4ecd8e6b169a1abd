/-
  The sectors of a record.
-/
import Derived.Test.YtefkjdkalgemeaaZGA
import Derived.Test.YtefkjdkalgemeaaZE5
import Derived.Test.YtefkjdkalgemeaaZE6
import Derived.Test.YtefkjdkalgemeaaZVsFrz
import Derived.Test.YtefkjdkalgemeaaZVsDraw
namespace Go.Proofs.Ytefkjdkalgemeaa
set_option linter.unusedVariables false
set_option linter.unusedSimpArgs false
open Go Go.VS Tab
set_option maxHeartbeats 8000000
set_option maxRecDepth 8000
def rcC (r : Rc) : List AV := [w32 r.gen, bs r.text]
def rcA (r : Rc) : AV := .agg (rcC r)
theorem pieces_eq (r : Rc) (i : Nat) : partB r i = piece (allB r) 118 i ++ List.replicate (118 - (piece (allB r) 118 i).length) 0 ∨ manyB r ≤ i := by
  by_cases h : i < manyB r
  · left
    have hl := many_lt r h
    unfold partB piece
    rw [List.drop_append_of_le_length (by omega), List.take_append, List.length_take, List.length_drop]
    congr 1
    rw [List.take_replicate]
    congr 1
    omega
  · exact .inr (by omega)
theorem splice_b8 (l q : List UInt8) (o : Nat) (h : o + q.length ≤ l.length) : splice (l.map b8) o (q.map b8) = (l.take o ++ q ++ l.drop (o + q.length)).map b8 := by
  unfold splice
  simp only [List.map_append, List.map_take, List.map_drop, List.length_map, List.append_assoc]
def sec1 (r : Rc) : List UInt8 := putB r.gen 4 ++ List.replicate 124 0
def sec2 (r : Rc) (i : Nat) : List UInt8 := putB r.gen 4 ++ UInt8.ofNat i :: UInt8.ofNat (manyB r) :: List.replicate 122 0
def sec3 (r : Rc) (i : Nat) : List UInt8 := putB r.gen 4 ++ UInt8.ofNat i :: UInt8.ofNat (manyB r) :: (partB r i ++ List.replicate 4 0)
theorem sec1_splice (r : Rc) : splice (List.replicate 128 (.val (.int .u8 0))) 0 ((putB r.gen 4).map b8) = (sec1 r).map b8 := by
  have e : List.replicate 128 (AV.val (.int .u8 0)) = (List.replicate 128 (0 : UInt8)).map b8 := by rw [List.map_replicate]; rfl
  rw [e, splice_b8 _ _ _ (by rw [putB_len, List.length_replicate]; decide), putB_len]
  rfl
theorem sec1_len (r : Rc) : (sec1 r).length = 128 := by unfold sec1; rw [List.length_append, putB_len, List.length_replicate]
theorem sec2_len (r : Rc) (i : Nat) : (sec2 r i).length = 128 := by unfold sec2; simp [putB_len]
theorem sec2_set (r : Rc) (i : Nat) : ((sec1 r).set 4 (UInt8.ofNat i)).set 5 (UInt8.ofNat (manyB r)) = sec2 r i := by
  unfold sec1 sec2
  rw [List.set_append_right _ _ (by rw [putB_len]; exact Nat.le_refl _), List.set_append_right _ _ (by rw [putB_len]; decide), putB_len]
  rfl
theorem sec3_splice (r : Rc) {i : Nat} (h : i < manyB r) : splice ((sec2 r i).map b8) 6 ((piece (allB r) 118 i).map b8) = (sec3 r i).map b8 := by
  have hp := (pieces_eq r i).resolve_right (by omega)
  have hl : (piece (allB r) 118 i).length ≤ 118 := by unfold piece; rw [List.length_take]; omega
  rw [splice_b8 _ _ _ (by rw [sec2_len]; omega)]
  unfold sec3
  rw [hp]
  generalize piece (allB r) 118 i = q at hl
  unfold sec2
  have e1 : (putB r.gen 4 ++ UInt8.ofNat i :: UInt8.ofNat (manyB r) :: List.replicate 122 0).take 6 = putB r.gen 4 ++ [UInt8.ofNat i, UInt8.ofNat (manyB r)] := by
    rw [List.take_append, List.take_of_length_le (by rw [putB_len]; decide), putB_len]; rfl
  have e2 : (putB r.gen 4 ++ UInt8.ofNat i :: UInt8.ofNat (manyB r) :: List.replicate 122 0).drop (6 + q.length) = List.replicate (122 - q.length) 0 := by
    rw [List.drop_append, List.drop_of_length_le (by rw [putB_len]; omega), putB_len, show 6 + q.length - 4 = q.length + 1 + 1 by omega, List.drop_succ_cons, List.drop_succ_cons, List.drop_replicate]; rfl
  rw [e1, e2, show 122 - q.length = (118 - q.length) + 4 by omega, ← List.replicate_append_replicate]
  simp
theorem sec3_len (r : Rc) {i : Nat} (h : i < manyB r) : (sec3 r i).length = 128 := by unfold sec3; simp [putB_len, part_len r h]
theorem sec4_splice (r : Rc) {i : Nat} (h : i < manyB r) : splice ((sec3 r i).map b8) 124 ((putB r.gen 4).map b8) = (secB r i).map b8 := by
  rw [splice_b8 _ _ _ (by rw [sec3_len r h, putB_len]; decide), putB_len, List.drop_of_length_le (by rw [sec3_len r h]; decide), List.append_nil]
  congr 1
  unfold sec3 secB
  rw [List.take_append, List.take_of_length_le (by rw [putB_len]; decide), putB_len, List.append_assoc]
  congr 1
  show (UInt8.ofNat i :: UInt8.ofNat (manyB r) :: (partB r i ++ List.replicate 4 0)).take 120 ++ _ = _
  rw [List.take_succ_cons, List.take_succ_cons, List.take_left' (part_len r h)]
  rfl
theorem fzM_snoc {k sz : Nat} {cs : List AV} {sz' : Nat} {L : List (List AV)} {a b : List AV} {md : Md} (h : fzL k sz cs a b) : FzM k sz cs (.sl sz' (L ++ [a]) md) (.sl sz' (L ++ [b]) md) :=
  .inr ⟨sz', _, _, md, rfl, rfl, by simp, fun p r r' hr hr' => by
    rcases Nat.lt_or_ge p L.length with hp | hp
    · rw [List.getElem?_append_left hp] at hr hr'
      rw [hr] at hr'; injection hr' with e
      rw [e]; exact fzL_refl _
    · rw [List.getElem?_append_right hp] at hr hr'
      match hq : p - L.length, hr, hr' with
      | 0, hr, hr' =>
        simp only [List.getElem?_cons_zero, Option.some.injEq] at hr hr'
        subst hr; subst hr'; exact h
      | q + 1, hr, _ => simp at hr⟩
theorem gv_two {fr : List AV} {lo : List (Option Res)} {out : Nat → Option Res} {n : Nat} {df : List Deferred} (i j : Nat) (r q : Res) : AState.give ⟨fr, lo, out, n, n, df⟩ [(n + i, r), (n + j, q)] = ⟨fr, (lo.set i (some r)).set j (some q), out, n, n, df⟩ := by
  have h : ¬ n + i < n := by omega
  have h' : ¬ n + j < n := by omega
  simp [AState.give, h, h']
theorem awp0_patch {P : Program} {c : Code} {Q : Exit → AState → Prop} {σ : AState} (lE : List (Nat × AV)) (loE : List (Option Res)) (h1 : σ.le { σ with fr := patch σ.fr lE, lo := loE }) (h : AWp0 P c Q { σ with fr := patch σ.fr lE, lo := loE }) : AWp0 P c Q σ := awp0_le h1 h
theorem c_sectors (r : Rc) (hl : r.text.length ≤ 10000) : ACall Try.prog 85 [rcA r] [] (.sl 1 ((sectorsB r).map secC) .sh) [] := by
  have hal := all_len r
  have htl : (textB r).length = 2 + r.text.length := by unfold textB; rw [List.length_append, putB_len]
  have hgl := putB_len 4 r.gen
  have hcl := putB_len 4 (crcB (putB r.gen 4 ++ textB r))
  have h2l := putB_len 2 (BitVec.ofNat 32 r.text.length)
  have hconv : IntKind.u32.wrap (r.text.length : Int) = ((BitVec.ofNat 32 r.text.length).toNat : Int) := by rw [wrap_u32', BitVec.toNat_ofNat]; omega
  refine acall_of_range 8 Try.func85 rfl fun n out _ _ => ?_
  simp only [Try.ntmps85, List.length_cons, List.length_nil, List.length_map, List.length_replicate, rep_map, Nat.reduceAdd, Nat.reduceSub, List.replicate, List.cons_append, List.nil_append]
  refine awp0_seq_k fun K hK => AWp.zero (awp_ev tab_ok [] ?_)
  simp (maxSteps := 4000000) only [su, evLit, hbT, tab, thenA, blockA, reduceCtorEq, reduceIte, Nat.reduceEqDiff, Nat.reduceBEq, Int.reduceLE, Int.reduceToNat, Nat.reduceAdd, Nat.reduceLT, Nat.reduceLeDiff, rcA, rcC]
  repeat' (first | (with_reducible refine hK _ ?_; clear hK K) | with_reducible apply And.intro)
  refine awp0_le (le_freezeAt (i := 0) (t := 1) 1 (.ref [w32 r.gen, bs r.text]) rfl rfl (.ptr 0)) ?_
  simp only [s_0, s_s]
  refine awp0_le (le_row (i := 6) 37 1 rfl) ?_
  simp only [s_0, s_s]
  refine awp0_seq_k fun K hK => AWp.zero (awp_ev tab_ok [] ?_)
  simp (maxSteps := 4000000) only [su, evLit, hbT, tab, thenA, blockA, reduceCtorEq, reduceIte, Nat.reduceEqDiff, Nat.reduceBEq, Int.reduceLE, Int.reduceToNat, Nat.reduceAdd, Nat.reduceLT, Nat.reduceLeDiff]
  repeat' (first | (with_reducible refine hK _ ?_; clear hK K) | with_reducible apply And.intro)
  refine call_pure (c_put r.gen 4 (by decide) (by decide)) ?_
  simp (maxSteps := 4000000) only [su, evLit, hbT, tab, thenA, blockA, reduceCtorEq, reduceIte, Nat.reduceEqDiff, Nat.reduceBEq, Int.reduceLE, Int.reduceToNat, Nat.reduceAdd, Nat.reduceLT, Nat.reduceLeDiff]
  repeat' (first | (with_reducible refine hK _ ?_; clear hK K) | with_reducible apply And.intro)
  refine awp0_le (le_freezeAt (i := 2) (t := 3) 1 (.ref [.sl 1 (bytesAV (putB r.gen 4)) .full]) rfl rfl (.ptr 0)) ?_
  simp only [s_0, s_s]
  refine awp0_seq_k fun K hK => AWp.zero (awp_ev_quiet tab_ok follows (by kernel_rfl) ?_)
  simp (maxSteps := 4000000) only [su, evLit, hbT, tab, thenA, blockA, reduceCtorEq, reduceIte, Nat.reduceEqDiff, Nat.reduceBEq, Int.reduceLE, Int.reduceToNat, Nat.reduceAdd, Nat.reduceLT, Nat.reduceLeDiff, bytes_length, hconv]
  refine call_pure (c_put (BitVec.ofNat 32 r.text.length) 2 (by decide) (by decide)) ?_
  simp (maxSteps := 4000000) only [su, evLit, hbT, tab, thenA, blockA, reduceCtorEq, reduceIte, Nat.reduceEqDiff, Nat.reduceBEq, Int.reduceLE, Int.reduceToNat, Nat.reduceAdd, Nat.reduceLT, Nat.reduceLeDiff, bytes_length, h2l, bytes_app, show putB (BitVec.ofNat 32 r.text.length) 2 ++ r.text = textB r from rfl]
  repeat' (first | (with_reducible refine hK _ ?_; clear hK K) | with_reducible apply And.intro)
  · omega
  · omega
  obtain ⟨MT, hMT⟩ : ∃ MT, MT = (if (bytesAV r.text).isEmpty = true then Md.full else Md.sh) := ⟨_, rfl⟩
  rw [← hMT]
  have lit : ∀ (σ : AState) (K : AV → List (Nat × Res) → Prop), evLit tab σ K none 22 2 [(0, .sl 1 (bytesAV (putB r.gen 4)) .full), (1, .sl 1 (bytesAV (textB r)) MT)] = K (.sl 1 [[.sl 1 (bytesAV (putB r.gen 4)) .full], [.sl 1 (bytesAV (textB r)) MT]] .full) [] := fun σ K => evLit_two (T := tab) (ti := ti22) (te := ti37) rfl rfl rfl rfl rfl rfl
  refine awp0_seq_k fun K hK => AWp.zero (awp_ev tab_ok [] ?_)
  simp (maxSteps := 4000000) only [su, hbT, tab, thenA, blockA, reduceCtorEq, reduceIte, Nat.reduceEqDiff, Nat.reduceBEq, Int.reduceLE, Int.reduceToNat, Nat.reduceAdd, Nat.reduceLT, Nat.reduceLeDiff, lit]
  repeat' (first | (with_reducible refine hK _ ?_; clear hK K) | with_reducible apply And.intro)
  refine call_one (c_concat_bytes (n + 7) (bytesAV (putB r.gen 4)) (bytesAV (textB r)) .full .full MT (by rw [bytes_length, bytes_length]; omega)) (look_loc _ (Nat.le_refl _) 7) (dom_loc _ (by simp)) (by simp) ?_
  rw [bytes_app]
  simp (maxSteps := 4000000) only [su, evLit, hbT, tab, thenA, blockA, reduceCtorEq, reduceIte, Nat.reduceEqDiff, Nat.reduceBEq, Int.reduceLE, Int.reduceToNat, Nat.reduceAdd, Nat.reduceLT, Nat.reduceLeDiff]
  repeat' (first | (with_reducible refine hK _ ?_; clear hK K) | with_reducible apply And.intro)
  refine call_pure (c_crc (putB r.gen 4 ++ textB r) _ (by rw [List.length_append]; omega)) ?_
  simp (maxSteps := 4000000) only [su, evLit, hbT, tab, thenA, blockA, reduceCtorEq, reduceIte, Nat.reduceEqDiff, Nat.reduceBEq, Int.reduceLE, Int.reduceToNat, Nat.reduceAdd, Nat.reduceLT, Nat.reduceLeDiff]
  repeat' (first | (with_reducible refine hK _ ?_; clear hK K) | with_reducible apply And.intro)
  refine call_pure (c_put (crcB (putB r.gen 4 ++ textB r)) 4 (by decide) (by decide)) ?_
  have hne : (bytesAV (textB r)).isEmpty = false := by
    cases h : textB r with
    | nil => rw [h] at htl; simp at htl; omega
    | cons x l => rfl
  simp (maxSteps := 4000000) only [su, evLit, hbT, tab, thenA, blockA, reduceCtorEq, reduceIte, Nat.reduceEqDiff, Nat.reduceBEq, Int.reduceLE, Int.reduceToNat, Nat.reduceAdd, Nat.reduceLT, Nat.reduceLeDiff, bytes_length, hcl, htl, hne, bytes_app, show putB (crcB (putB r.gen 4 ++ textB r)) 4 ++ textB r = allB r from rfl]
  repeat' (first | (with_reducible refine hK _ ?_; clear hK K) | with_reducible apply And.intro)
  · omega
  · omega
  have hq : evInt .quo .i64 (((allB r).length + 118 - 1 : Nat) : Int) 118 = some (.int .i64 ((manyB r : Nat) : Int)) := by
    have e : ((((allB r).length + 118 - 1 : Nat) : Int)).tdiv 118 = ((manyB r : Nat) : Int) := rfl
    have hm : manyB r ≤ 100 := by unfold manyB; omega
    rw [i_quo _ _ (by decide), e, wrap_i64 (by omega) (by omega)]
  have hw1 := addw (n := (allB r).length) 118 118 rfl (by omega)
  have hw2 := subw (n := (allB r).length + 118) 1 1 rfl (by omega) (by omega)
  refine awp0_seq_k fun K hK => AWp.zero (awp_ev tab_ok [] ?_)
  simp (maxSteps := 4000000) only [su, evLit, hbT, tab, thenA, blockA, reduceCtorEq, reduceIte, Nat.reduceEqDiff, Nat.reduceBEq, Int.reduceLE, Int.reduceToNat, Nat.reduceAdd, Nat.reduceLT, Nat.reduceLeDiff, bytes_length, hw1, hw2, hq]
  repeat' (first | (with_reducible refine hK _ ?_; clear hK K) | with_reducible apply And.intro)
  refine awp0_le (le_freezeAt (i := 3) (t := 6) 1 (.ref [i64 (manyB r : Nat)]) rfl rfl (.ptr 0)) ?_
  simp only [s_0, s_s]
  refine awp0_seq_k fun KB hKB => ?_
  refine awp0_seq_k fun K hK => AWp.zero (awp_ev tab_ok [] ?_)
  simp (maxSteps := 4000000) only [su, evLit, hbT, tab, thenA, blockA, reduceCtorEq, reduceIte, Nat.reduceEqDiff, Nat.reduceBEq, Int.reduceLE, Int.reduceToNat, Nat.reduceAdd, Nat.reduceLT, Nat.reduceLeDiff]
  repeat' (first | (with_reducible refine hK _ ?_; clear hK K) | with_reducible apply And.intro)
  refine call_pure (c_chunk (bytesAV (allB r)) _ 118 (by decide)) ?_
  simp (maxSteps := 4000000) only [su, evLit, hbT, tab, thenA, blockA, reduceCtorEq, reduceIte, Nat.reduceEqDiff, Nat.reduceBEq, Int.reduceLE, Int.reduceToNat, Nat.reduceAdd, Nat.reduceLT, Nat.reduceLeDiff]
  repeat' (first | (with_reducible refine hK _ ?_; clear hK K) | with_reducible apply And.intro)
  refine awp0_patch [] [some .dead, some (.box 22 [.sl 1 [] (.own (n + 6))]), some .dead, some .dead, none, none, some (.row 37 1 0), some (.row 5 1 ((putB r.gen 4).length + (2 + r.text.length)))] ?_ ?_
  · refine le_of_all ?_ ?_ rfl rfl rfl rfl <;> simp only [patch, sl]
  simp only [patch, s_0, s_s]
  refine awp0_block (awp0_range (r := .tup []) (gf := 111) (caps := [.ref [.sl 1 (bytesAV (allB r)) .sh], .ref [i64 118]]) 4 5 Try.func111 (by kernel_rfl) (by kernel_rfl) rfl (by decide) rfl rfl ?_)
  intro D lp rec F hF h1 h2 h3 h4 h5
  refine ⟨_, _, c_chunk1 lp (n + 5) (n + 1) (n + 6) (by omega) (by omega) (by omega) (.pin lp (.loop rec) F) (by simp) (fun i => .box 22 [.sl 1 (((List.range i).map (secB r)).map secC) (.own (n + 6))]) (fun i => .row 37 1 i) (by simp) (by simp) (allB r) .sh (by omega) 118 (manyB r) (by decide) (by decide) (many_cover r) (fun i h => many_lt r h)
    (fun i hi => ayld_of_body (fr := F) (fr1 := (F.set 35 (.sl 1 (bytesAV (piece (allB r) 118 i)) .full)).set 7 (.sl 1 (bytesAV (piece (allB r) 118 i)) .full)) (ps := [35]) 1 h1 h2 h3 h4 h5 rfl (by simp) (by simp) ?_ ?_), ?_, ?_, ?_, ?_, ?_⟩
  · intro n' out'
    subst hF
    simp only [List.zip_cons_cons, List.zip_nil_left, List.zip_nil_right, setAll, s_0, s_s]
    refine awp_ev tab_ok [] ?_
    simp (maxSteps := 4000000) only [su, evLit, hbT, tab, thenA, blockA, reduceCtorEq, reduceIte, Nat.reduceEqDiff, Nat.reduceBEq, Int.reduceLE, Int.reduceToNat, Nat.reduceAdd, Nat.reduceLT, Nat.reduceLeDiff]
  · intro n' out' hh hg
    obtain ⟨hka, hkb, _⟩ := hh
    obtain ⟨hkan, hkbn, _⟩ := hg
    have hoN : [n + 1, n + 6].Nodup := by simp
    have hoL : ∀ k, k ∈ [n + 1, n + 6] → k < n' := fun k hk => by
      simp only [List.mem_cons, List.not_mem_nil, or_false] at hk
      rcases hk with rfl | rfl
      · exact hkan
      · exact hkbn
    refine awp_block ?_
    subst hF
    simp only [List.replicate, s_0, s_s]
    refine awp_seq_k fun K hK => awp_ev tab_ok [] ?_
    simp (maxSteps := 4000000) only [su, evLit, hbT, tab, thenA, blockA, reduceCtorEq, reduceIte, Nat.reduceEqDiff, Nat.reduceBEq, Int.reduceLE, Int.reduceToNat, Nat.reduceAdd, Nat.reduceLT, Nat.reduceLeDiff]
    repeat' (first | (with_reducible refine hK _ ?_; clear hK K) | with_reducible apply And.intro)
    have t4 : List.take 128 (putB r.gen 4) = putB r.gen 4 := List.take_of_length_le (by rw [hgl]; decide)
    have hk1 := sec1_len r
    have hk2 := sec2_len r i
    have hk3 := sec3_len r hi
    have hpl : (piece (allB r) 118 i).length ≤ 118 := by unfold piece; rw [List.length_take]; omega
    have hm100 : manyB r ≤ 100 := by unfold manyB; omega
    refine awp_seq_k fun K hK => awp_ev_draw tab_ok [] [[], [], [0]] [[], [], [0]] follows (by kernel_rfl) (by decide) (by decide) (by kernel_rfl) ?_
    simp (maxSteps := 4000000) only [su, evLit, hbT, tab, thenA, blockA, reduceCtorEq, reduceIte, Nat.reduceEqDiff, Nat.reduceBEq, Int.reduceLE, Int.reduceToNat, Nat.reduceAdd, Nat.reduceLT, Nat.reduceLeDiff, loOf, hiOf, bytes_length, hgl, List.length_replicate, Nat.reduceSub, Int.reduceToNat, bytes_take, bytes_flat, t4, sec1_splice r]
    repeat' (first | (with_reducible refine hK _ ?_; clear hK K) | with_reducible apply And.intro)
    · decide
    have hc1 : IntKind.u8.wrap (i : Int) = ((UInt8.ofNat i).toNat : Int) := by rw [wrap_u8', UInt8.toNat_ofNat']; omega
    have hc2 : IntKind.u8.wrap ((manyB r : Nat) : Int) = ((UInt8.ofNat (manyB r)).toNat : Int) := by rw [wrap_u8', UInt8.toNat_ofNat']; omega
    have hs1 := splice_map b8 (sec1 r) 4 (UInt8.ofNat i) (by omega)
    have hs2 := splice_map b8 ((sec1 r).set 4 (UInt8.ofNat i)) 5 (UInt8.ofNat (manyB r)) (by rw [List.length_set]; omega)
    rw [sec2_set] at hs2
    refine awp_seq_k fun K hK => awp_ev_drawO tab_ok [] [n + 1, n + 6] [[100], [], [], [], [], [], [0], [], [0]] [[], [], [], [], [], [], [0], [], [0]] hoN hoL follows (by kernel_rfl) (by decide) (by decide) (by kernel_rfl) ?_
    simp (maxSteps := 4000000) only [su, evLit, hbT, tab, thenA, blockA, reduceCtorEq, reduceIte, Nat.reduceEqDiff, Nat.reduceBEq, Int.reduceLE, Int.reduceToNat, Nat.reduceAdd, Nat.reduceLT, Nat.reduceLeDiff, so, lk_out hkan, dm_out hkan, hka, List.length_map, List.length_range, hc1, hc2, hs1, hs2, hk1, List.length_set, Int.reduceToNat]
    repeat' (first | (with_reducible refine hK _ ?_; clear hK K) | with_reducible apply And.intro)
    · decide
    · decide
    have hs3 := sec3_splice r hi
    have hs4 := sec4_splice r hi
    have tp : List.take 122 (piece (allB r) 118 i) = piece (allB r) 118 i := List.take_of_length_le (by omega)
    have t4' : List.take 4 (putB r.gen 4) = putB r.gen 4 := List.take_of_length_le (by rw [hgl]; decide)
    refine awp_seq_k fun K hK => awp_ev tab_ok [] ?_
    simp (maxSteps := 4000000) only [su, evLit, hbT, tab, thenA, blockA, reduceCtorEq, reduceIte, Nat.reduceEqDiff, Nat.reduceBEq, Int.reduceLE, Int.reduceToNat, Nat.reduceAdd, Nat.reduceLT, Nat.reduceLeDiff, loOf, hiOf, bytes_length, hgl, List.length_map, hk2, Nat.reduceSub, Int.reduceToNat, bytes_take, bytes_flat, tp, hs3, Nat.min_eq_left (Nat.le_trans hpl (by decide : 118 ≤ 122))]
    repeat' (first | (with_reducible refine hK _ ?_; clear hK K) | with_reducible apply And.intro)
    · omega
    refine awp_seq_k fun K hK => awp_ev_draw tab_ok [] [[], [], [0]] [[], [], [0]] follows (by kernel_rfl) (by decide) (by decide) (by kernel_rfl) ?_
    simp (maxSteps := 4000000) only [su, evLit, hbT, tab, thenA, blockA, reduceCtorEq, reduceIte, Nat.reduceEqDiff, Nat.reduceBEq, Int.reduceLE, Int.reduceToNat, Nat.reduceAdd, Nat.reduceLT, Nat.reduceLeDiff, loOf, hiOf, bytes_length, hgl, List.length_map, hk3, Nat.reduceSub, Int.reduceToNat, bytes_take, bytes_flat, t4', hs4]
    repeat' (first | (with_reducible refine hK _ ?_; clear hK K) | with_reducible apply And.intro)
    · decide
    have lit2 : ∀ (σ : AState) (K : AV → List (Nat × Res) → Prop) (k o l : Nat) (fl : Bool), evLit tab σ K none 22 1 [(0, .bsl k o l fl)] = K (.sl 1 [[.bsl k o l fl]] .full) [] := fun σ K k o l fl => evLit_one (T := tab) (ti := ti22) (te := ti37) rfl rfl rfl (by decide) (by decide) rfl rfl
    have hne : (n + 6 = n + 1) = False := eq_false (by omega)
    have y1 : (i + 1) * 24 ≤ 140737488355328 := by omega
    have y2 : i + 1 ≤ 9223372036854775807 := by omega
    have hk6 : ∀ q, upd1 out' (n + 6) q (n + 1) = some (.box 22 [.sl 1 (((List.range i).map (secB r)).map secC) (.own (n + 6))]) := fun q => by
      rw [upd1_ne _ _ (by omega)]; exact hka
    refine awp_after ?_
    refine awp_ev_drawO tab_ok [] [n + 1, n + 6] [[100], [], [], [101], [100]] [[], [], [], [101], [100]] hoN hoL follows (by kernel_rfl) (by decide) (by decide) (by kernel_rfl) ?_
    simp (maxSteps := 4000000) only [su, hbT, tab, thenA, blockA, reduceCtorEq, reduceIte, Nat.reduceEqDiff, Nat.reduceBEq, Int.reduceLE, Int.reduceToNat, Nat.reduceAdd, Nat.reduceLT, Nat.reduceLeDiff, so, lk_out hkan, dm_out hkan, hka, lk_out hkbn, dm_out hkbn, hkb, nx_outs hkan, nx_outs hkbn, List.length_map, List.length_range, hne, lit2, y1, y2, loOf, hiOf, hk6, splice_all, Nat.sub_zero]
    refine ⟨_, le_freezeOut (i := 0) (k := n + 1) 1 [] (lo1 := [some (.box 135 ((secB r i).map b8))]) rfl (upd1_same _ _ _) (fzL_refl _) ?_ (fzM_snoc (b := [bs (secB r i)]) ⟨?_, trivial⟩), rfl, fun k hk => ?_⟩
    · simp only [fzRL_cons, fzRL_nil, fzRes_same, true_and, and_true]
    · have h := Fz.bsl (k := n' + 0) (sz := 1) (cs := (secB r i).map b8) 0 128 false ⟨by decide, by rw [List.length_map, sec_len r hi]; decide⟩
      rw [List.drop_zero, chunk_b8' _ (sec_len r hi)] at h
      exact h
    · show upd1 (upd1 (upd1 out' (n + 6) _) (n + 1) _) (n + 1) _ k = _
      rw [upd1_upd1, List.range_succ, List.map_append, List.map_append]
      simp only [upd_cons, upd_nil, upd1]
      by_cases q1 : k = n + 1
      · have q2 : ¬ k = n + 6 := by omega
        rw [if_pos q1, if_neg q2, if_pos q1]; rfl
      · by_cases q2 : k = n + 6
        · rw [if_neg q1, if_pos q2, if_pos q2]
        · rw [if_neg q1, if_neg q2, if_neg q2, if_neg q1]
  · subst hF
    simp only [holds, s_0, s_s, lk_loc, List.getElem?_cons_zero, List.getElem?_cons_succ, Option.join_some, and_true, true_and, List.range_zero, List.map_nil]
  · exact ⟨dom_loc _ (by simp), dom_loc _ (by simp), trivial⟩
  · intro x hx
    simp only [List.mem_cons, List.not_mem_nil, or_false] at hx
    rcases hx with rfl | rfl | rfl
    · exact dom_loc _ (by simp)
    · exact dom_loc _ (by simp)
    · exact dom_loc _ (by simp)
  · intro x hx
    simp only [List.mem_cons, List.not_mem_nil, or_false] at hx
    rcases hx with rfl | rfl
    · show n + 1 ≠ n + 5
      omega
    · show n + 6 ≠ n + 5
      omega
  simp only [thenA, blockA, s_0, s_s, gv_two]
  refine hKB _ ?_
  clear hKB KB
  refine AWp.zero ?_
  refine awp_seq_k fun K hK => awp_ev tab_ok [] ?_
  simp (maxSteps := 4000000) only [su, evLit, hbT, tab, thenA, blockA, reduceCtorEq, reduceIte, Nat.reduceEqDiff, Nat.reduceBEq, Int.reduceLE, Int.reduceToNat, Nat.reduceAdd, Nat.reduceLT, Nat.reduceLeDiff, splice_all]
  repeat' (first | (with_reducible refine hK _ ?_; clear hK K) | with_reducible apply And.intro)
  refine awp_ret ?_
  exact ⟨4, D, rfl, rfl, ret_cell_le (.inr rfl) rfl rfl rfl (fun _ _ => rfl) ok22 (k := n + 1) (off := 0) rfl (dom_loc _ (by simp)) (look_loc _ (Nat.le_refl _) 1) rfl (.sh _ _ _)⟩
end Go.Proofs.Ytefkjdkalgemeaa
