import Derived.Test.YtgdbcclammapnaaI
import Derived.Deep.Slices
import Derived.Deep.Strs
import Derived.SizedLaws
set_option linter.unusedVariables false
set_option linter.unusedSimpArgs false
namespace Go.Proofs.Ytgdbcclammapnaa
open Go Go.RowKit Go.Bz Go.ChangeShapes Go.WideShapes
section
variable {H : Type} {enc : TypeId × Value → H} {W : World} {R : Nat}
theorem flat_get {α : Type} (cell : α → List Value) (sz : Nat) (hc : ∀ q, (cell q).length = sz) : ∀ (qs : List α) (j : Nat) (h : j < qs.length) (i : Nat), i < sz → (qs.flatMap cell)[j * sz + i]? = (cell qs[j])[i]?
  | q :: qs, 0, h, i, hi => by
    show (cell q ++ qs.flatMap cell)[0 * sz + i]? = _
    rw [List.getElem?_append_left (by rw [hc]; omega)]; simp
  | q :: qs, j + 1, h, i, hi => by
    show (cell q ++ qs.flatMap cell)[(j + 1) * sz + i]? = _
    rw [List.getElem?_append_right (by rw [hc, Nat.add_mul]; omega), show (j + 1) * sz + i - (cell q).length = j * sz + i by rw [hc, Nat.add_mul]; omega]
    rw [flat_get cell sz hc qs j (by simpa using h) i hi]; simp
theorem flat_len {α : Type} (cell : α → List Value) (sz : Nat) (hc : ∀ q, (cell q).length = sz) (qs : List α) : (qs.flatMap cell).length = qs.length * sz := by
  induction qs with
  | nil => simp
  | cons q qs ih => simp only [List.flatMap_cons, List.length_append, hc, ih, List.length_cons, Nat.add_mul]; omega
theorem open_list {α : Type} [Inhabited α] {t e sz fuel n c : Nat} {a : Option Addr} {x : DataW H × List MemPlace} (cell : α → List Value) (Q : α → DataW H → Prop) (hu : Try.prog.underlying t = some (.slice e)) (hce : Try.prog.cellsOf e = sz) (hsz : 0 < sz) (hcell : ∀ q, (cell q).length = sz)
    (hel : ∀ fuel cs (y : DataW H × List MemPlace), DataW.trod enc Try.prog W 0 (fun _ => true) true fuel e cs = some y → ∃ q, cs = cell q ∧ Q q y.1) (h : DataW.trod enc Try.prog W 0 (fun _ => true) true fuel t [.slice a n c] = some x) :
    ∃ qs : List α, qs.length = n ∧ SlR W a (qs.flatMap cell) ∧ ∀ q ∈ qs, ∃ d, Q q d ∧ ∀ k ∈ d.weights Try.prog e, k ∈ x.1.weights Try.prog t := by
  rcases Go.Deep.open_slice hu h with ⟨hcs, _⟩ | ⟨a', l, c', m, n', D, Pl, hcs, _, hl, _, hm, hx, hxx⟩
  · simp at hcs
    obtain ⟨rfl, rfl, rfl⟩ := hcs
    exact ⟨[], rfl, .inl rfl, fun q hq => by cases hq⟩
  · simp at hcs
    obtain ⟨rfl, rfl, rfl⟩ := hcs
    have hm' : m = c := by simpa using hm
    subst hm'
    rw [hce] at hxx
    obtain ⟨f, hf⟩ : ∃ f : Nat → α, ∀ i, i < m → W.cells? 0 (a'.add (i * sz)) sz = some (cell (f i)) ∧ Q (f i) (D i) :=
      Go.Deep.choose_lt (α := α) (p := fun i q => W.cells? 0 (a'.add (i * sz)) sz = some (cell q) ∧ Q q (D i)) fun i hi => by
        obtain ⟨cs, h1, h2⟩ := hxx i hi
        obtain ⟨q, rfl, hq⟩ := hel _ _ _ h2
        exact ⟨q, h1, hq⟩
    refine ⟨(List.range n).map f, by simp, ?_, fun q hq => ?_⟩
    · by_cases h0 : n = 0
      · subst h0; exact .inl rfl
      have hsp : a'.spot = none := by
        have h1 := (World.cells?_some (hf 0 (by omega)).1).2.2 0 hsz
        cases hcq : (cell (f 0))[0]? with
        | none => have := hcell (f 0); rw [List.getElem?_eq_none_iff] at hcq; omega
        | some v =>
          rw [hcq] at h1
          have h2 := World.cell?_spot h1
          simpa [Addr.add] using h2
      obtain ⟨b, o, s⟩ := a'
      dsimp only at hsp
      subst hsp
      refine .inr ⟨b, o, rfl, fun k u hk => ?_⟩
      have hlt := (List.getElem?_eq_some_iff.1 hk).1
      rw [flat_len cell sz hcell] at hlt
      simp only [List.length_map, List.length_range] at hlt
      have hr : k % sz < sz := Nat.mod_lt _ hsz
      have hd : k / sz * sz + k % sz = k := by rw [Nat.mul_comm]; exact Nat.div_add_mod k sz
      have hq : k / sz < n := (Nat.div_lt_iff_lt_mul hsz).2 hlt
      have e := flat_get cell sz hcell ((List.range n).map f) (k / sz) (by simpa using hq) (k % sz) hr
      rw [hd, hk] at e
      have h1 := (World.cells?_some (hf (k / sz) (by omega)).1).2.2 (k % sz) hr
      rw [addr_add, addr_add, show o + k / sz * sz + k % sz = o + k by omega] at h1
      rw [h1, e]; simp
    · obtain ⟨i, hi, rfl⟩ := List.mem_map.1 hq
      have hi' := List.mem_range.1 hi
      refine ⟨D i, (hf i (by omega)).2, fun k hk => ?_⟩
      rw [hx]
      unfold DataW.weights
      rw [hu]
      refine List.mem_cons_of_mem _ (List.mem_append_left _ ?_)
      have : ∀ l : List (DataW H), D i ∈ l → k ∈ DataW.weightsAll Try.prog e l := fun l => by
        induction l with
        | nil => intro h; cases h
        | cons d l ih =>
          intro h
          simp only [DataW.weightsAll, List.mem_append]
          rcases List.mem_cons.1 h with rfl | h
          · exact .inl hk
          · exact .inr (ih h)
      exact this _ (List.mem_map_of_mem hi)
theorem open_u8s {fuel : Nat} {cs : List Value} {x : DataW H × List MemPlace} (hf : DataW.trod enc Try.prog W 0 (fun _ => true) true fuel 23 cs = some x) :
    ∃ (a : Option Addr) (c : Nat) (b : List UInt8), cs = [.slice a b.length c] ∧ SlR W a (byts b) ∧ ((∀ k ∈ x.1.weights Try.prog 23, k ≤ R) → b.length ≤ R) := by
  have hc5 : Try.prog.cellsOf 5 = 1 := by kernel_rfl
  have hb5 : Try.prog.bytesOf 5 = 1 := by kernel_rfl
  rcases open_ints Try.underlying23 Try.underlying5 hc5 hf with ⟨hcs, _⟩ | ⟨a', n, c, zs, hcs, _, hl, _, hz, hx, hcell, hwz⟩
  · exact ⟨none, 0, [], hcs, .inl rfl, fun _ => Nat.zero_le _⟩
  · have hz' : zs.length = c := by simpa using hz
    have hbl : ((zs.take n).map fun z => UInt8.ofNat z.toNat).length = n := by simp; omega
    refine ⟨some a', c, (zs.take n).map fun z => UInt8.ofNat z.toNat, by rw [hbl]; exact hcs, ?_, fun hw => ?_⟩
    · by_cases h0 : n = 0
      · subst h0; exact .inl (by simp [byts])
      have hsp : a'.spot = none := by have := World.cell?_spot (hcell 0 (by omega)); simpa [Addr.add] using this
      obtain ⟨b, o, s⟩ := a'
      dsimp only at hsp
      subst hsp
      refine .inr ⟨b, o, rfl, fun k u hk => ?_⟩
      have hlt : k < n := by have := (List.getElem?_eq_some_iff.1 hk).1; rw [byts_len, hbl] at this; exact this
      have h1 := hcell k (by omega)
      rw [addr_add] at h1
      have hg : zs.getD k 0 = zs[k] := by simp [List.getD_eq_getElem?_getD, List.getElem?_eq_getElem (show k < zs.length by omega)]
      have hw := hwz zs[k] (List.getElem_mem _)
      have m1 : IntKind.u8.min = 0 := by decide
      have m2 : IntKind.u8.max = 255 := by decide
      simp [Lit.wf] at hw
      rw [h1, hg]
      have e : (byts ((zs.take n).map fun z => UInt8.ofNat z.toNat))[k]? = some (.int .u8 (((UInt8.ofNat (zs[k]).toNat).toNat : Nat) : Int)) := by
        simp [byts, hlt, List.getElem?_take, List.getElem?_eq_getElem (show k < zs.length by omega)]
      rw [e] at hk
      have e2 : (((UInt8.ofNat (zs[k]).toNat).toNat : Nat) : Int) = zs[k] := by simp; omega
      rw [e2] at hk
      exact hk
    · have hmem : ((lits (H := H) .u8 (zs.take n)).length + (lits (H := H) .u8 (zs.drop n)).length) * Try.prog.bytesOf 5 ∈ x.1.weights Try.prog 23 := by
        rw [hx]; unfold DataW.weights; rw [Try.underlying23]; exact List.mem_cons_self ..
      have := hw _ hmem
      rw [hb5] at this
      simp [lits] at this
      rw [hbl]; omega
theorem open_pc {fuel : Nat} {cs : List Value} {x : DataW H × List MemPlace} (hf : DataW.trod enc Try.prog W 0 (fun _ => true) true fuel 25 cs = some x) :
    ∃ q : Ml.Pv, cs = Ml.pcell q ∧ SlR W q.2.1 (byts q.1.2.2) ∧ ((∀ k ∈ x.1.weights Try.prog 25, k ≤ R) → q.1.2.2.length ≤ R) := by
  obtain ⟨y0, y1, y2, n', hx, hlen, t0, t1, t2⟩ := Go.Deep.trod_struct3 Try.underlying25 hf
  have h25 : Try.prog.cellsOf 25 = 3 := by kernel_rfl
  have h3 : Try.prog.cellsOf 3 = 1 := by kernel_rfl
  have h23 : Try.prog.cellsOf 23 = 1 := by kernel_rfl
  rw [h25] at hlen
  match cs, hlen with
  | [u0, u1, u2], _ =>
    rw [h3] at t0 t1
    rw [h23] at t2
    obtain ⟨i0, e0, _⟩ := DataW.trod_int Try.underlying3 t0
    obtain ⟨i1, e1, _⟩ := DataW.trod_int Try.underlying3 t1
    obtain ⟨a, c, b, e2, hs, hw⟩ := open_u8s (R := R) t2
    simp at e0 e1 e2
    subst e0 e1 e2
    refine ⟨((i0, i1, b), (a, c)), rfl, hs, fun h => hw fun k hk => h k ?_⟩
    rw [hx]; unfold DataW.weights; rw [Try.underlying25]
    exact DataW.weights_mem_each (j := 2) rfl rfl k hk
theorem open_oc {fuel : Nat} {cs : List Value} {x : DataW H × List MemPlace} (hf : DataW.trod enc Try.prog W 0 (fun _ => true) true fuel 27 cs = some x) :
    ∃ o : Ov, cs = ocell o ∧ SlR W o.2.2.1 (byts o.2.1.2.2) ∧ ((∀ k ∈ x.1.weights Try.prog 27, k ≤ R) → o.2.1.2.2.length ≤ R) := by
  obtain ⟨y0, y1, y2, n', hx, hlen, t0, t1, t2⟩ := Go.Deep.trod_struct3 Try.underlying27 hf
  have h27 : Try.prog.cellsOf 27 = 5 := by kernel_rfl
  have h3 : Try.prog.cellsOf 3 = 1 := by kernel_rfl
  have h25 : Try.prog.cellsOf 25 = 3 := by kernel_rfl
  rw [h27] at hlen
  match cs, hlen with
  | [u0, u1, u2, u3, u4], _ =>
    rw [h3] at t0 t1
    rw [h25] at t2
    obtain ⟨i0, e0, _⟩ := DataW.trod_int Try.underlying3 t0
    obtain ⟨i1, e1, _⟩ := DataW.trod_int Try.underlying3 t1
    obtain ⟨q, e2, hs, hw⟩ := open_pc (R := R) t2
    simp at e0 e1
    subst e0 e1
    refine ⟨((i0, i1), q), ?_, hs, fun h => hw fun k hk => h k ?_⟩
    · unfold ocell
      rw [← e2]; rfl
    rw [hx]; unfold DataW.weights; rw [Try.underlying27]
    exact DataW.weights_mem_each (j := 2) rfl rfl k hk
instance : Inhabited Ml.Pv := ⟨(Ml.zero, (none, 0))⟩
instance : Inhabited Ov := ⟨((0, 0), (Ml.zero, (none, 0)))⟩
theorem all_le {ts : List TypeId} {ds : List (DataW H)} (hsz : (DataW.weightsEach Try.prog ts ds).all (· ≤ reachBytes) = true) {j : Nat} {t : TypeId} {d : DataW H} (ht : ts[j]? = some t) (hd : ds[j]? = some d) : ∀ k ∈ d.weights Try.prog t, k ≤ 140737488351232 := fun k hk => by
  have := List.all_eq_true.1 hsz _ (DataW.weights_mem_each ht hd k hk)
  have h2 : k ≤ reachBytes := by simpa using this
  exact Nat.le_trans h2 (by decide)
theorem open_os {a : Option Addr} {len cap : Nat} {x : DataW H × List MemPlace} (hw : ∀ k ∈ x.1.weights Try.prog 29, k ≤ R) (h : ∃ fuel, DataW.trod enc Try.prog W 0 (fun _ => true) true fuel 29 (Value.slice a len cap).cells.toList = some x) :
    ∃ os : List Ov, os.length = len ∧ SlR W a (ocs os) ∧ (∀ o ∈ os, SlR W o.2.2.1 (byts o.2.1.2.2)) ∧ ∀ o ∈ os, o.2.1.2.2.length ≤ R := by
  obtain ⟨fuel, hf⟩ := h
  obtain ⟨os, h1, h2, h3⟩ := open_list ocell (fun o d => SlR W o.2.2.1 (byts o.2.1.2.2) ∧ ((∀ k ∈ d.weights Try.prog 27, k ≤ R) → o.2.1.2.2.length ≤ R)) Try.underlying29 (sz := 5) (by kernel_rfl) (by omega) (fun _ => rfl) (fun fuel cs y h => open_oc h) hf
  exact ⟨os, h1, h2, fun o ho => (h3 o ho).elim fun d h => h.1.1, fun o ho => (h3 o ho).elim fun d h => h.1.2 fun k hk => hw k (h.2 k hk)⟩
theorem open_ps {a : Option Addr} {len cap : Nat} {x : DataW H × List MemPlace} (hw : ∀ k ∈ x.1.weights Try.prog 22, k ≤ R) (h : ∃ fuel, DataW.trod enc Try.prog W 0 (fun _ => true) true fuel 22 (Value.slice a len cap).cells.toList = some x) :
    ∃ ps : List Ml.Pv, ps.length = len ∧ (∀ f ∈ Ml.pfs a ps, SlR W f.1 f.2) ∧ ∀ q ∈ ps, q.1.2.2.length ≤ R := by
  obtain ⟨fuel, hf⟩ := h
  obtain ⟨ps, h1, h2, h3⟩ := open_list Ml.pcell (fun q d => SlR W q.2.1 (byts q.1.2.2) ∧ ((∀ k ∈ d.weights Try.prog 25, k ≤ R) → q.1.2.2.length ≤ R)) Try.underlying22 (sz := 3) (by kernel_rfl) (by omega) (fun _ => rfl) (fun fuel cs y h => open_pc h) hf
  exact ⟨ps, h1, pfR h2 (fun r hr => (h3 r hr).elim fun d h => h.1.1), fun o ho => (h3 o ho).elim fun d h => h.1.2 fun k hk => hw k (h.2 k hk)⟩
end
end Go.Proofs.Ytgdbcclammapnaa
