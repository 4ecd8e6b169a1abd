/-
  The value-semantics layer: the frame of a law: from the contract of the law's function over abstract values to what its row's step asks.
-/
import Derived.Test.YtgdhnngpfieloaaZVsBits
import Derived.ProofKit
import Derived.OpenShut
import Derived.Carry
import Derived.JoinedCond
import Derived.SizedLaws
namespace Go.VS
set_option linter.unusedVariables false
set_option linter.unusedSimpArgs false
open Go Go.RowKit Go.ChangeShapes Go.WideShapes
def Mem.start (W : World) : Mem := { w := W, stb := fun b o => ∃ v, W.cell? ⟨b, o, none⟩ = some v ∧ leaf v, β := fun _ => 0, cap := fun _ => none, st := fun _ => none, base := W }
theorem Inv.start (W : World) : Inv (Mem.start W) :=
  ⟨Below.refl _ _, ⟨0, fun _ _ => rfl⟩, fun k h => by simp [Mem.owns, Mem.start] at h, fun j k h => by simp [Mem.owns, Mem.start] at h, fun b o h => h,
    fun k e cs h => by simp [Mem.start] at h, fun k e sz m cap h => by simp [Mem.start] at h, fun k b o fr h => by simp [Mem.start] at h, fun j k b o fr o' fr' h => by simp [Mem.start] at h, fun k e sz m cs h => by simp [Mem.start] at h⟩
def Cells (W : World) (l : List AV) (cs : List Value) : Prop :=
  l.length = cs.length ∧ ∀ (i : Nat) (c : AV) (v : Value), l[i]? = some c → cs[i]? = some v → leaf v ∧ R (Mem.start W) c v
theorem Cells.nil (W : World) : Cells W [] [] := ⟨rfl, fun i c v h => by simp at h⟩
theorem Cells.one {W : World} {c : AV} {v : Value} (hl : leaf v) (h : R (Mem.start W) c v) : Cells W [c] [v] :=
  ⟨rfl, fun i c' v' h1 h2 => by
    match i with
    | 0 => simp at h1 h2; subst h1; subst h2; exact ⟨hl, h⟩
    | i + 1 => simp at h1⟩
theorem Cells.app {W : World} {l l' : List AV} {cs cs' : List Value} (h : Cells W l cs) (h' : Cells W l' cs') : Cells W (l ++ l') (cs ++ cs') := by
  refine ⟨by simp [h.1, h'.1], fun i c v h1 h2 => ?_⟩
  by_cases hi : i < l.length
  · rw [List.getElem?_append_left hi] at h1
    rw [List.getElem?_append_left (by rw [← h.1]; exact hi)] at h2
    exact h.2 i c v h1 h2
  · rw [List.getElem?_append_right (by omega)] at h1
    rw [List.getElem?_append_right (by rw [← h.1]; omega)] at h2
    rw [h.1] at h1
    exact h'.2 _ c v h1 h2
structure Opens (P : Program) (t : TypeId) {α : Type} (f : α → List AV) (ok : α → Prop) : Prop where
  op : ∀ (H : Type) (enc : TypeId × Value → H) (W : World) (fuel : Nat) (cs : List Value) (x : DataW H × List MemPlace),
    DataW.trod enc P W 0 (fun _ => true) true fuel t cs = some x → (∀ n, n ∈ x.1.weights P t → n ≤ reachBytes) → ∃ y : α, ok y ∧ Cells W (f y) cs
theorem Opens.map {P : Program} {t : TypeId} {α β : Type} {f : α → List AV} {ok : α → Prop} (h : Opens P t f ok) {g : β → List AV} {ok' : β → Prop}
    (hg : ∀ y, ok y → ∃ z, ok' z ∧ g z = f y) : Opens P t g ok' := ⟨fun H enc W fuel cs x hx hw => by
  obtain ⟨y, hy, hc⟩ := h.op H enc W fuel cs x hx hw
  obtain ⟨z, hz, e⟩ := hg y hy
  exact ⟨z, hz, by rw [e]; exact hc⟩⟩
structure OpensF (P : Program) (fs : List Field) (o tot : Nat) {α : Type} (g : α → List AV) (ok : α → Prop) : Prop where
  op : ∀ (H : Type) (enc : TypeId × Value → H) (W : World) (n : Nat) (cs : List Value), cs.length = tot →
    (∀ f, f ∈ fs → ∃ x, DataW.trod enc P W 0 (fun _ => true) true n f.type ((cs.drop f.offset).take (P.cellsOf f.type)) = some x ∧ ∀ m, m ∈ x.1.weights P f.type → m ≤ reachBytes) → ∃ y : α, ok y ∧ Cells W (g y) (cs.drop o)
theorem OpensF.nil {P : Program} {o : Nat} : OpensF P [] o o (fun _ : Unit => []) (fun _ => True) :=
  ⟨fun H enc W n cs hl _ => ⟨(), trivial, by rw [List.drop_eq_nil_of_le (by omega)]; exact .nil _⟩⟩
theorem OpensF.cons {P : Program} {f : Field} {fs : List Field} {o o' s tot : Nat} {α β : Type} {ff : α → List AV} {okf : α → Prop} {g : β → List AV} {ok : β → Prop} (h : Opens P f.type ff okf) (ho : f.offset = o) (hs : P.cellsOf f.type = s) (ho' : o' = o + s)
    (h' : OpensF P fs o' tot g ok) : OpensF P (f :: fs) o tot (fun p : α × β => ff p.1 ++ g p.2) (fun p => okf p.1 ∧ ok p.2) :=
  ⟨fun H enc W n cs hl hall => by
    obtain ⟨x, hx, hxw⟩ := hall f (by simp)
    rw [ho, hs] at hx
    obtain ⟨y, hy, hc⟩ := h.op H enc W n _ x hx hxw
    obtain ⟨z, hz, hcz⟩ := h'.op H enc W n cs hl fun f' hf' => hall f' (by simp [hf'])
    subst ho'
    refine ⟨(y, z), ⟨hy, hz⟩, ?_⟩
    have h6 := hc.app hcz
    rw [← List.drop_drop, List.take_append_drop] at h6
    exact h6⟩
structure OpensArg (P : Program) (t : TypeId) {α : Type} (f : α → AV) (ok : α → Prop) : Prop where
  op : ∀ (H : Type) (enc : TypeId × Value → H) (W : World) (base : Nat) (v : Value) (d : DataW H) (ps : List MemPlace),
    Value.okWide P W .any base t v → DataW.Trod enc P W 0 (fun _ => true) true t v d ps → (∀ n, n ∈ d.weights P t → n ≤ reachBytes) → ∃ y : α, ok y ∧ R (Mem.start W) (f y) v
theorem OpensArg.one {P : Program} {t : TypeId} {α : Type} {f : α → AV} {ok : α → Prop} (h : Opens P t (fun y => [f y]) ok)
    (hone : ∀ (W : World) (base : Nat) (v : Value), Value.okWide P W .any base t v → v.cells = #[v]) : OpensArg P t f ok :=
  ⟨fun H enc W base v d ps hv ht hw => by
    obtain ⟨fuel, hx⟩ := ht
    rw [hone W base v hv] at hx
    obtain ⟨y, hy, hcs⟩ := h.op H enc W fuel [v] _ hx hw
    exact ⟨y, hy, (hcs.2 0 _ _ rfl rfl).2⟩⟩
theorem OpensArg.agg {P : Program} {t : TypeId} {α : Type} {f : α → List AV} {ok : α → Prop} (h : Opens P t f ok)
    (hagg : ∀ (W : World) (base : Nat) (v : Value), Value.okWide P W .any base t v → ∃ cs, v = .agg cs) : OpensArg P t (fun y => .agg (f y)) ok :=
  ⟨fun H enc W base v d ps hv ht hw => by
    obtain ⟨fuel, hx⟩ := ht
    obtain ⟨cs, rfl⟩ := hagg W base v hv
    obtain ⟨y, hy, hcs⟩ := h.op H enc W fuel cs.toList _ hx hw
    refine ⟨y, hy, .agg _ _ (by rw [hcs.1]; simp) (fun i v hi => ?_) (fun i c v hi hv => (hcs.2 i c v hi (by simpa using hv)).2)⟩
    have hil := (Array.getElem?_eq_some_iff.1 hi).1
    exact (hcs.2 i _ v (List.getElem?_eq_getElem (by rw [hcs.1]; simpa using hil)) (by simpa using hi)).1⟩
structure OpensAll (P : Program) (ts : List TypeId) {α : Type} (f : α → List AV) (ok : α → Prop) : Prop where
  op : ∀ (H : Type) (enc : TypeId × Value → H) (W : World) (base : Nat) (vs : List Value) (ds : List (DataW H)) (ps : List MemPlace),
    (∀ (j : Nat) t v, ts[j]? = some t → vs[j]? = some v → Value.okWide P W .any base t v) →
    DataW.TrodAll enc P W 0 (fun _ => true) true ts vs ds ps → (∀ n, n ∈ DataW.weightsEach P ts ds → n ≤ reachBytes) → ∃ y : α, ok y ∧ (f y).length = vs.length ∧ ∀ (i : Nat) c v, (f y)[i]? = some c → vs[i]? = some v → R (Mem.start W) c v
theorem OpensAll.nil {P : Program} : OpensAll P [] (fun _ : Unit => []) (fun _ => True) :=
  ⟨fun H enc W base vs ds ps _ h _ => by
    obtain ⟨rfl, _, _⟩ := trodAll_nil h
    exact ⟨(), trivial, rfl, fun i c v h => by simp at h⟩⟩
theorem OpensAll.cons {P : Program} {t : TypeId} {ts : List TypeId} {α β : Type} {f : α → AV} {ok : α → Prop} {g : β → List AV} {ok' : β → Prop} (h : OpensArg P t f ok) (h' : OpensAll P ts g ok') :
    OpensAll P (t :: ts) (fun p : α × β => f p.1 :: g p.2) (fun p => ok p.1 ∧ ok' p.2) :=
  ⟨fun H enc W base vs ds ps hv ht hw => by
    obtain ⟨v, vs', d, ds', p, q, rfl, rfl, rfl, h0, h1⟩ := trodAll_cons ht
    obtain ⟨y, hy, hR⟩ := h.op H enc W base v d p (hv 0 _ _ rfl rfl) h0 fun n hn => hw n (by simp [DataW.weightsEach, hn])
    obtain ⟨z, hz, hl, hRz⟩ := h'.op H enc W base vs' ds' q (fun j t v h1 h2 => hv (j + 1) t v (by simpa using h1) (by simpa using h2)) h1 fun n hn => hw n (by simp [DataW.weightsEach, hn])
    refine ⟨(y, z), ⟨hy, hz⟩, by simp [hl], fun i c v hi hv => ?_⟩
    match i with
    | 0 => simp at hi hv; subst hi; subst hv; exact hR
    | i + 1 => exact hRz i c v (by simpa using hi) (by simpa using hv)⟩
theorem trodAll_stays {H : Type} {enc : TypeId × Value → H} {P : Program} (hl : laidOutB P = true) {W W' : World} (hb : Below W.heap.size W W') {sp : Nat → Bool} : ∀ {ts : List TypeId} {vs : List Value} {ds : List (DataW H)} {ps : List MemPlace},
    (∀ t, t ∈ ts → P.readableRec t = true ∧ t < P.types.size) → DataW.TrodAll enc P W 0 (fun _ => true) true ts vs ds ps → (∀ x ∈ ps, x.block < W.heap.size) → (∀ x ∈ ps, sp x.block = true) → DataW.TrodAll enc P W' 0 sp true ts vs ds ps
  | [], vs, ds, ps, _, h, _, _ => by obtain ⟨rfl, rfl, rfl⟩ := trodAll_nil h; exact trodAll_mk0
  | t :: ts, vs, ds, ps, hts, h, hlt, hsp => by
    obtain ⟨v, vs', d, ds', p, q, rfl, rfl, rfl, h0, h1⟩ := trodAll_cons h
    obtain ⟨hr, hrow⟩ := hts t (by simp)
    exact trodAll_cons_mk (WideElems.Trod_stays hl hr hrow h0 (fun x hx => hb.same (hlt x (by simp [hx]))) (fun x hx => hsp x (by simp [hx])))
      (trodAll_stays hl hb (fun t' ht' => hts t' (by simp [ht'])) h1 (fun x hx => hlt x (by simp [hx])) (fun x hx => hsp x (by simp [hx])))
theorem trodAll_data {H : Type} {enc : TypeId × Value → H} {P : Program} {W : World} {base : Nat} {sp : Nat → Bool} {held : Bool} : ∀ {ts : List TypeId} {vs : List Value} {ds : List (DataW H)} {ps : List MemPlace},
    DataW.TrodAll enc P W base sp held ts vs ds ps → ds.length = ts.length
  | [], vs, ds, ps, h => by obtain ⟨rfl, rfl, rfl⟩ := trodAll_nil h; rfl
  | t :: ts, vs, ds, ps, h => by
    obtain ⟨v, vs', d, ds', p, q, rfl, rfl, rfl, h0, h1⟩ := trodAll_cons h
    simp [trodAll_data h1]
theorem weights_app {H : Type} {P : Program} : ∀ {ts us : List TypeId} {ds gs : List (DataW H)} {n : Nat}, n ∈ DataW.weightsEach P ts ds → n ∈ DataW.weightsEach P (ts ++ us) (ds ++ gs)
  | t :: ts, us, d :: ds, gs, n, h => by
    simp only [List.cons_append, DataW.weightsEach, List.mem_append] at h ⊢
    exact h.imp id fun h => weights_app h
  | [], _, _, _, _, h => by simp [DataW.weightsEach] at h
  | _ :: _, _, [], _, _, h => by simp [DataW.weightsEach] at h
theorem law_contract {P : Program} {fid : FuncId} {f : Func} {s : ChangeSpec} {α : Type} {g : α → List AV} {ok : α → Prop} (hl : laidOutB P = true) (hpar : ∀ t, t ∈ f.params.toList → P.readableRec t = true ∧ t < P.types.size)
    {tb : TypeId} (hres : f.resultTypes = #[tb]) (htb : P.underlying tb = some .bool) (hvars : s.vars = []) {ts : List TypeId} (hts : f.params.toList = ts) (O : OpensAll P ts g ok)
    (hspec : ∀ (H : Type) (ds : List (DataW H)), ds.length = f.params.toList.length → s.fn H ds = { results := [.lit (.bool true)], args := ds })
    (hlaw : ∀ y, ok y → ACall P fid (g y) [] (.val (.bool true)) [])
    {H : Type} {enc : TypeId × Value → H} {W : World} {base : Nat} {args : Array Value} {ds gs : List (DataW H)} {before : List MemPlace}
    (hval : ∀ (j : Nat) t v, f.params[j]? = some t → args[j]? = some v → Value.okWide P W .any base t v)
    (hW : DataW.Whole enc P f.params.toList s.vars false W args.toList ds gs before) {us : List TypeId} (hsz : (DataW.weightsEach P (f.params.toList ++ us) (ds ++ gs)).all (· ≤ reachBytes) = true) :
    Calls P fid args W fun e W' => ∃ v, e = .returned v ∧ s.post enc P f false true false false W args v W' := by
  have hW' := hW
  obtain ⟨p, q, hA, hV, rfl, hfz, hnd⟩ := hW
  rw [hvars] at hV
  obtain ⟨rfl, rfl⟩ := trodVars_none hV
  have hds := trodAll_data hA
  have hA2 := hA
  rw [hts] at hA2
  obtain ⟨y, hy, hlen, hR⟩ := O.op H enc W base args.toList ds p (fun j t v h1 h2 => hval j t v (by rw [← Array.getElem?_toList, hts]; exact h1) (by simpa using h2)) hA2 (fun n hn => by
    have hall := List.all_eq_true.1 hsz n ?_
    · simpa using hall
    · rw [← hts] at hn
      exact weights_app hn)
  have hc := hlaw y hy (Mem.start W) 0 args (Inv.start W) ⟨by rw [hlen]; simp, fun i c v hi hv => hR i c v hi (by simpa using hv)⟩ trivial (fun _ _ => rfl) trivial
  refine hc.mono fun e W' hD => ?_
  obtain ⟨v, rfl, M', hw, hE, hI, _, hv⟩ := hD
  have hvb : v = .bool true := by cases hv; rfl
  subst hvb
  have hb : Below W.heap.size W W' := by
    have := hI.below
    rw [hE.base, hw] at this
    exact this
  have hf := hspec H (ds ++ []) (by simpa using hds)
  have hlt : ∀ x ∈ p, x.block < W.heap.size := fun x hx => hW'.lt x (by simpa using hx)
  refine ⟨_, rfl, ds, [], p ++ [], [], p, [], hW', ?_, ?_, ?_, hb.frame _, fun h => by cases h⟩
  · rw [hf, hres]
    exact trodAll_mk1 (shut_bool htb _)
  · rw [hf, List.append_nil]
    exact trodAll_stays hl hb hpar hA hlt (fun x hx => by simpa using hlt x hx)
  · rw [hf, hvars]; rfl
end Go.VS
