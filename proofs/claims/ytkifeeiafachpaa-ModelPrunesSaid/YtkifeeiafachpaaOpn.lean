/- How bytes, arrays of bytes and what is made of them are read, when a law begins. -/
import Derived.Test.YtkifeeiafachpaaMo
import Derived.Test.YtkifeeiafachpaaRows
import Derived.Deep.Slices
import Derived.Deep.Strs
import Derived.Lib.SmallJoins
import Derived.SizedLaws
import Derived.WalkKit
import Derived.ProofKit
import Derived.OpenShut
import Derived.ShutString
import Derived.ChangeOld
import Derived.Below
set_option linter.unusedVariables false
set_option linter.unusedSimpArgs false
namespace Go.Proofs.Ytkifeeiafachpaa
open Go Go.RowKit Go.Bz Go.ChangeShapes Go.WideShapes
section
variable {H : Type} {enc : TypeId × Value → H} {W : World} {R : Nat}
theorem flat_get {α : Type} (cell : α → List Value) (sz : Nat) (hc : ∀ q, (cell q).length = sz) : ∀ (qs : List α) (j : Nat) (h : j < qs.length) (i : Nat), i < sz → (qs.flatMap cell)[j * sz + i]? = (cell qs[j])[i]?
  | q :: qs, 0, h, i, hi => by
    show (cell q ++ qs.flatMap cell)[0 * sz + i]? = _
    rw [List.getElem?_append_left (by rw [hc]; omega)]; simp
  | q :: qs, j + 1, h, i, hi => by
    show (cell q ++ qs.flatMap cell)[(j + 1) * sz + i]? = _
    rw [List.getElem?_append_right (by rw [hc, Nat.add_mul]; omega), show (j + 1) * sz + i - (cell q).length = j * sz + i by rw [hc, Nat.add_mul]; omega]
    rw [flat_get cell sz hc qs j (by simpa using h) i hi]; simp
theorem flat_len {α : Type} (cell : α → List Value) (sz : Nat) (hc : ∀ q, (cell q).length = sz) (qs : List α) : (qs.flatMap cell).length = qs.length * sz := by
  induction qs with
  | nil => simp
  | cons q qs ih => simp only [List.flatMap_cons, List.length_append, hc, ih, List.length_cons, Nat.add_mul]; omega
theorem open_list {α : Type} [Inhabited α] {t e sz fuel n c : Nat} {a : Option Addr} {x : DataW H × List MemPlace} (cell : α → List Value) (Q : α → DataW H → Prop) (hu : Try.prog.underlying t = some (.slice e)) (hce : Try.prog.cellsOf e = sz) (hsz : 0 < sz) (hcell : ∀ q, (cell q).length = sz)
    (hel : ∀ fuel cs (y : DataW H × List MemPlace), DataW.trod enc Try.prog W 0 (fun _ => true) true fuel e cs = some y → ∃ q, cs = cell q ∧ Q q y.1) (h : DataW.trod enc Try.prog W 0 (fun _ => true) true fuel t [.slice a n c] = some x) :
    ∃ qs : List α, qs.length = n ∧ SlR W a (qs.flatMap cell) ∧ ∀ q ∈ qs, ∃ d, Q q d ∧ ∀ k ∈ d.weights Try.prog e, k ∈ x.1.weights Try.prog t := by
  rcases Go.Deep.open_slice hu h with ⟨hcs, _⟩ | ⟨a', l, c', m, n', D, Pl, hcs, _, hl, _, hm, hx, hxx⟩
  · simp at hcs
    obtain ⟨rfl, rfl, rfl⟩ := hcs
    exact ⟨[], rfl, .inl rfl, fun q hq => by cases hq⟩
  · simp at hcs
    obtain ⟨rfl, rfl, rfl⟩ := hcs
    have hm' : m = c := by simpa using hm
    subst hm'
    rw [hce] at hxx
    obtain ⟨f, hf⟩ : ∃ f : Nat → α, ∀ i, i < m → W.cells? 0 (a'.add (i * sz)) sz = some (cell (f i)) ∧ Q (f i) (D i) :=
      Go.Deep.choose_lt (α := α) (p := fun i q => W.cells? 0 (a'.add (i * sz)) sz = some (cell q) ∧ Q q (D i)) fun i hi => by
        obtain ⟨cs, h1, h2⟩ := hxx i hi
        obtain ⟨q, rfl, hq⟩ := hel _ _ _ h2
        exact ⟨q, h1, hq⟩
    refine ⟨(List.range n).map f, by simp, ?_, fun q hq => ?_⟩
    · by_cases h0 : n = 0
      · subst h0; exact .inl rfl
      have hsp : a'.spot = none := by
        have h1 := (World.cells?_some (hf 0 (by omega)).1).2.2 0 hsz
        cases hcq : (cell (f 0))[0]? with
        | none => have := hcell (f 0); rw [List.getElem?_eq_none_iff] at hcq; omega
        | some v =>
          rw [hcq] at h1
          have h2 := World.cell?_spot h1
          simpa [Addr.add] using h2
      obtain ⟨b, o, s⟩ := a'
      dsimp only at hsp
      subst hsp
      refine .inr ⟨b, o, rfl, fun k u hk => ?_⟩
      have hlt := (List.getElem?_eq_some_iff.1 hk).1
      rw [flat_len cell sz hcell] at hlt
      simp only [List.length_map, List.length_range] at hlt
      have hr : k % sz < sz := Nat.mod_lt _ hsz
      have hd : k / sz * sz + k % sz = k := by rw [Nat.mul_comm]; exact Nat.div_add_mod k sz
      have hq : k / sz < n := (Nat.div_lt_iff_lt_mul hsz).2 hlt
      have e := flat_get cell sz hcell ((List.range n).map f) (k / sz) (by simpa using hq) (k % sz) hr
      rw [hd, hk] at e
      have h1 := (World.cells?_some (hf (k / sz) (by omega)).1).2.2 (k % sz) hr
      rw [addr_add, addr_add, show o + k / sz * sz + k % sz = o + k by omega] at h1
      rw [h1, e]; simp
    · obtain ⟨i, hi, rfl⟩ := List.mem_map.1 hq
      have hi' := List.mem_range.1 hi
      refine ⟨D i, (hf i (by omega)).2, fun k hk => ?_⟩
      rw [hx]
      unfold DataW.weights
      rw [hu]
      refine List.mem_cons_of_mem _ (List.mem_append_left _ ?_)
      have : ∀ l : List (DataW H), D i ∈ l → k ∈ DataW.weightsAll Try.prog e l := fun l => by
        induction l with
        | nil => intro h; cases h
        | cons d l ih =>
          intro h
          simp only [DataW.weightsAll, List.mem_append]
          rcases List.mem_cons.1 h with rfl | h
          · exact .inl hk
          · exact .inr (ih h)
      exact this _ (List.mem_map_of_mem hi)
theorem open_u8s {fuel : Nat} {cs : List Value} {x : DataW H × List MemPlace} (hf : DataW.trod enc Try.prog W 0 (fun _ => true) true fuel 27 cs = some x) :
    ∃ (a : Option Addr) (c : Nat) (b : List UInt8), cs = [.slice a b.length c] ∧ SlR W a (byts b) ∧ b.length ≤ c ∧ ((∀ k ∈ x.1.weights Try.prog 27, k ≤ R) → b.length ≤ R) := by
  have hc5 : Try.prog.cellsOf 5 = 1 := by kernel_rfl
  have hb5 : Try.prog.bytesOf 5 = 1 := by kernel_rfl
  rcases open_ints Try.underlying27 Try.underlying5 hc5 hf with ⟨hcs, _⟩ | ⟨a', n, c, zs, hcs, _, hl, _, hz, hx, hcell, hwz⟩
  · exact ⟨none, 0, [], hcs, .inl rfl, Nat.le_refl _, fun _ => Nat.zero_le _⟩
  · have hz' : zs.length = c := by simpa using hz
    have hbl : ((zs.take n).map fun z => UInt8.ofNat z.toNat).length = n := by simp; omega
    refine ⟨some a', c, (zs.take n).map fun z => UInt8.ofNat z.toNat, by rw [hbl]; exact hcs, ?_, by rw [hbl]; exact hl, fun hw => ?_⟩
    · by_cases h0 : n = 0
      · subst h0; exact .inl (by simp [byts])
      have hsp : a'.spot = none := by have := World.cell?_spot (hcell 0 (by omega)); simpa [Addr.add] using this
      obtain ⟨b, o, s⟩ := a'
      dsimp only at hsp
      subst hsp
      refine .inr ⟨b, o, rfl, fun k u hk => ?_⟩
      have hlt : k < n := by have := (List.getElem?_eq_some_iff.1 hk).1; rw [byts_len, hbl] at this; exact this
      have h1 := hcell k (by omega)
      rw [addr_add] at h1
      have hg : zs.getD k 0 = zs[k] := by simp [List.getD_eq_getElem?_getD, List.getElem?_eq_getElem (show k < zs.length by omega)]
      have hw := hwz zs[k] (List.getElem_mem _)
      have m1 : IntKind.u8.min = 0 := by decide
      have m2 : IntKind.u8.max = 255 := by decide
      simp [Lit.wf] at hw
      rw [h1, hg]
      have e : (byts ((zs.take n).map fun z => UInt8.ofNat z.toNat))[k]? = some (.int .u8 (((UInt8.ofNat (zs[k]).toNat).toNat : Nat) : Int)) := by
        simp [byts, hlt, List.getElem?_take, List.getElem?_eq_getElem (show k < zs.length by omega)]
      rw [e] at hk
      have e2 : (((UInt8.ofNat (zs[k]).toNat).toNat : Nat) : Int) = zs[k] := by simp; omega
      rw [e2] at hk
      exact hk
    · have hmem : ((lits (H := H) .u8 (zs.take n)).length + (lits (H := H) .u8 (zs.drop n)).length) * Try.prog.bytesOf 5 ∈ x.1.weights Try.prog 27 := by
        rw [hx]; unfold DataW.weights; rw [Try.underlying27]; exact List.mem_cons_self ..
      have := hw _ hmem
      rw [hb5] at this
      simp [lits] at this
      rw [hbl]; omega
theorem okWide_array {P : Program} {w : World} {r : Reach} {base : Nat} {t n e : TypeId} {v : Value} (ht : P.underlying t = some (.array n e)) (h : Value.okWide P w r base t v) : ∃ cs, v = .agg cs ∧ cs.size = P.cellsOf t := by
  simp only [Value.okWide, ht] at h
  obtain ⟨cs, h1, h2, _⟩ := h
  exact ⟨cs, h1, h2⟩
theorem open_u8a {t n e fuel : Nat} {cs : List Value} {x : DataW H × List MemPlace} (ht : Try.prog.underlying t = some (.array n e)) (he : Try.prog.underlying e = some (.int .u8)) (hct : Try.prog.cellsOf t = n) (hce : Try.prog.cellsOf e = 1) (hf : DataW.trod enc Try.prog W 0 (fun _ => true) true fuel t cs = some x) :
    ∃ l : List UInt8, cs = ws8 l ∧ l.length = n := by
  obtain ⟨xs, m, _, _, hl, hn, hx⟩ := DataW.trod_array ht hf
  rw [hct] at hl
  rw [hce] at hx
  obtain ⟨f, hfv⟩ : ∃ f : Nat → UInt8, ∀ i, i < n → cs[i]? = some (v8 (f i)) :=
    Go.Deep.choose_lt (α := UInt8) (p := fun i q => cs[i]? = some (v8 q)) fun i hi => by
      have h1 := hx i hi
      rw [List.getElem?_eq_getElem (show i < xs.length by omega), Nat.mul_one] at h1
      obtain ⟨z, e1, _, hw⟩ := DataW.trod_int he h1
      have e2 : (cs.drop i).take 1 = [cs[i]'(by omega)] := by
        rw [List.drop_eq_getElem_cons (by omega), List.take_succ_cons, List.take_zero]
      rw [e2] at e1
      simp only [List.cons.injEq, and_true] at e1
      have m1 : IntKind.u8.min = 0 := by decide
      have m2 : IntKind.u8.max = 255 := by decide
      simp [Lit.wf, m1, m2] at hw
      refine ⟨UInt8.ofNat z.toNat, ?_⟩
      rw [List.getElem?_eq_getElem (by omega), e1]
      have e3 : (((UInt8.ofNat z.toNat).toNat : Nat) : Int) = z := by simp; omega
      show some (Value.int .u8 z) = some (Value.int .u8 (((UInt8.ofNat z.toNat).toNat : Nat) : Int))
      rw [e3]
  refine ⟨(List.range n).map f, ?_, by simp⟩
  apply List.ext_getElem?
  intro i
  by_cases h : i < n
  · rw [hfv i h]
    have := ws8_get (l := (List.range n).map f) (j := i) (by simpa using h)
    rw [this]
    simp [List.getD_eq_getElem?_getD, h]
  · rw [List.getElem?_eq_none (by omega), List.getElem?_eq_none (by rw [ws8_len]; simp; omega)]
theorem open_u64 {t fuel : Nat} {cs : List Value} {x : DataW H × List MemPlace} (ht : Try.prog.underlying t = some (.int .u64)) (hf : DataW.trod enc Try.prog W 0 (fun _ => true) true fuel t cs = some x) : ∃ n : UInt64, cs = [v64 n] := by
  obtain ⟨z, e1, _, hw⟩ := DataW.trod_int ht hf
  have m1 : IntKind.u64.min = 0 := by decide
  have m2 : IntKind.u64.max = 18446744073709551615 := by decide
  simp [Lit.wf, m1, m2] at hw
  refine ⟨UInt64.ofNat z.toNat, ?_⟩
  have e3 : (((UInt64.ofNat z.toNat).toNat : Nat) : Int) = z := by rw [UInt64.toNat_ofNat']; omega
  rw [e1]
  show [Value.int .u64 z] = [Value.int .u64 (((UInt64.ofNat z.toNat).toNat : Nat) : Int)]
  rw [e3]
theorem all_le {ts : List TypeId} {ds : List (DataW H)} (hsz : (DataW.weightsEach Try.prog ts ds).all (· ≤ reachBytes) = true) {j : Nat} {t : TypeId} {d : DataW H} (ht : ts[j]? = some t) (hd : ds[j]? = some d) : ∀ k ∈ d.weights Try.prog t, k ≤ 140737488351232 := fun k hk => by
  have := List.all_eq_true.1 hsz _ (DataW.weights_mem_each ht hd k hk)
  have h2 : k ≤ reachBytes := by simpa using this
  exact Nat.le_trans h2 (by decide)
end
end Go.Proofs.Ytkifeeiafachpaa
