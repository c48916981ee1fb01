/- Operations that turn the memory. Nothing of the program stands here. -/
import Derived.Test.YtkifeeiafachpaaJudge
set_option linter.unusedVariables false
set_option linter.unusedSimpArgs false
namespace Go.Bz
open Go Go.RowKit

variable {X : Cx} {ops : Array Oper} {rest : List Oper} {Q Q' : Exit → Act → World → Prop} {L L' : List (Nat × Value)} {Fs Fs' : List Pc}
variable {K : Nat → Prop} {w0 w : World} {C : List (Nat × Value) → List Pc → Prop} {g : Option (Nat × Bool)}

theorem heap_new (w : World) (o : Obj) : (w.alloc o).heap[w.heap.size]? = some o := heap_alloc_new w o
theorem cl_new (w : World) (cs : List Value) (E : TypeId) : (Pc.cl w.heap.size cs E).A (fun b => b = w.heap.size) (w.alloc (.cells cs.toArray E)) := ⟨fun x => Iff.rfl, heap_new _ _⟩
theorem St.alloc (h : St K w0 w Fs) (cs : List Value) (E : TypeId) : St K w0 (w.alloc (.cells cs.toArray E)) (Pc.cl w.heap.size cs E :: Fs) :=
  h.push (.alloc w _) (cl_new w cs E) fun b hb => by subst hb; simp

theorem run_newVar {P : Program} (t : TypeId) (v : Value) (w : World) : (newVar t v).run P w = .ok ⟨w.heap.size, 0, none⟩ (w.alloc (.cells v.cells t)) := rfl
/-- a type's value at the beginning -/
def zeroB (P : Program) (t : TypeId) : Option Value := (P.info? t).bind (·.zero)
theorem run_zero {P : Program} {t : TypeId} {z : Value} (h : zeroB P t = some z) (w : World) : (zeroValue t).run P w = .ok z w := by
  unfold zeroB at h
  obtain ⟨inf, hi, hz⟩ := Option.bind_eq_some_iff.1 h
  simp [zeroValue, typeInfo, hi, hz, go_sem]

theorem ot_alloc {d E : Nat} {ty : TypeId} {pos : String} {af : Array Edge} {z : Value} {zs : List Value} (hz : zeroB X.P E = some z) (hzs : z.cells = zs.toArray) (hd : Nat.ble (d + 1) X.n = true)
    (h : ∀ b, C ((d, .pointer (some ⟨b, 0, none⟩)) :: L) (Pc.cl b zs E :: Fs)) : OT X ⟨some d, .alloc E, ty, pos, af, g⟩ L Fs C :=
  ot_eff (γ := Nat) (Φ := fun _ => True) (v := fun b => .pointer (some ⟨b, 0, none⟩)) (H := fun b => Pc.cl b zs E :: Fs) (fun w a hs hf =>
    ⟨w.heap.size, w.alloc (.cells zs.toArray E), by
      simp only [execOp, Instr.alloc, Sem.run_bind, run_zero hz, Result.andThen_ok, run_newVar, hzs, Sem.run_pure], hs.alloc zs E, trivial⟩) hd fun b _ => h b

theorem ot_box {d E : Nat} {x : Operand} {ty : TypeId} {pos : String} {af : Array Edge} {v : Value} {cs : List Value} (e : ev L x = some v) (hcs : v.cells = cs.toArray) (hd : Nat.ble (d + 1) X.n = true)
    (h : ∀ b, C ((d, .pointer (some ⟨b, 0, none⟩)) :: L) (Pc.cl b cs E :: Fs)) : OT X ⟨some d, .box E x, ty, pos, af, g⟩ L Fs C :=
  ot_eff (γ := Nat) (Φ := fun _ => True) (v := fun b => .pointer (some ⟨b, 0, none⟩)) (H := fun b => Pc.cl b cs E :: Fs) (fun w a hs hf =>
    ⟨w.heap.size, w.alloc (.cells cs.toArray E), by
      simp only [execOp, hf.ev e, Instr.box, Sem.run_bind, run_newVar, hcs, Result.andThen_ok, Sem.run_pure], hs.alloc cs E, trivial⟩) hd fun b _ => h b

/-! ### reading out of a piece -/
theorem Hd.clAt {k b : Nat} {cs : List Value} {E : TypeId} (h : Hd K w0 w Fs) (e : Fs[k]? = some (Pc.cl b cs E)) : w.heap[b]? = some (.cells cs.toArray E (0, 0)) := by
  obtain ⟨S, hA⟩ := h.all _ _ e
  exact hA.2
theorem Hd.cell {k b o : Nat} {cs : List Value} {E : TypeId} {u : Value} (e : Fs[k]? = some (Pc.cl b cs E)) (hu : cs[o]? = some u) (w : World) (h : Hd K w0 w Fs) : w.cell? ⟨b, o, none⟩ = some u := by
  simp [World.cell?, h.clAt e, hu]
theorem Hd.cells {k b o : Nat} {cs : List Value} {E : TypeId} {us : List Value} (e : Fs[k]? = some (Pc.cl b cs E)) (hu : (cs.drop o).take us.length = us) (w : World) (h : Hd K w0 w Fs) : Cells w b o us := by
  intro j u hj
  have hlt := (List.getElem?_eq_some_iff.1 hj).1
  have : cs[o + j]? = some u := by
    rw [← hu] at hj
    rw [List.getElem?_take, if_pos (by omega)] at hj
    simpa using hj
  simp [World.cell?, h.clAt e, this]
/-- a cell of what was there when the call began, and may not turn -/
theorem Hd.cell0 {ad : Addr} {u : Value} (hu : w0.cell? ad = some u) (hK : ¬ K ad.block) (w : World) (h : Hd K w0 w Fs) : w.cell? ad = some u := by
  have hlt := World.block_lt_of_cell? w0 ad hu
  rw [World.cell?_of_block (w := w0) (h.upd.block _ hlt hK)]; exact hu
theorem Hd.cells0 {b o : Nat} {us : List Value} (hu : Cells w0 b o us) (hK : ¬ K b) (w : World) (h : Hd K w0 w Fs) : Cells w b o us := fun j u hj => Hd.cell0 (hu j u hj) hK w h
/-- an element of a slice that the call owns -/
theorem Hd.cellsAll {k b : Nat} {cs : List Value} {E : TypeId} (e : Fs[k]? = some (Pc.cl b cs E)) (w : World) (h : Hd K w0 w Fs) : Cells w b 0 cs := by
  intro j u hj
  simp [World.cell?, h.clAt e, hj]
theorem Hd.rowCell {k g E sz n cap j : Nat} {xs : List Value} {u : Value} (e : Fs[k]? = some (Pc.row (some ⟨g, 0, none⟩) cap E sz n xs)) (hu : xs[j]? = some u) (w : World) (h : Hd K w0 w Fs) : w.cell? ⟨g, j, none⟩ = some u := by
  obtain ⟨S, hA⟩ := h.all _ _ e
  have := hA.2.cells (g := g) rfl j u hu
  rwa [addr_add, Nat.zero_add] at this

/-! ### a store -/
def repl (cs : List Value) (o : Nat) : List Value → List Value
  | [] => cs
  | v :: vs => repl (cs.set o v) (o + 1) vs
theorem run_storeCells_cl {P : Program} {b : Nat} {E : TypeId} : ∀ (vs : List Value) (cs : List Value) (o i : Nat) (w : World), w.heap[b]? = some (.cells cs.toArray E (0, 0)) → o + i + vs.length ≤ cs.length → (∀ v ∈ vs, v.oneCell' = true) →
    ∃ w', (storeCells ⟨b, o, none⟩ vs i).run P w = .ok () w' ∧ w'.heap[b]? = some (.cells (repl cs (o + i) vs).toArray E (0, 0)) ∧ Upd (fun x => x = b) w w' ∧ w'.heap.size = w.heap.size
  | [], cs, o, i, w, hb, hl, h1 => ⟨w, rfl, hb, Upd.refl _ _, rfl⟩
  | v :: vs, cs, o, i, w, hb, hl, h1 => by
    have hlt : o + i < cs.length := by simp at hl; omega
    have hc : w.cell? ⟨b, o + i, none⟩ = some cs[o + i] := by simp [World.cell?, hb, hlt]
    have hfz : w.frozen? ⟨b, o + i, none⟩ = false := by simp [World.frozen?, hb]
    have hheap : (w.setCell ⟨b, o + i, none⟩ v).heap[b]? = some (.cells (cs.set (o + i) v).toArray E (0, 0)) := by
      simp [World.setCell, Array.getElem?_modify, hb]
    obtain ⟨w', hr, hb', hu, hsz⟩ := run_storeCells_cl (P := P) vs (cs.set (o + i) v) o (i + 1) (w.setCell ⟨b, o + i, none⟩ v) hheap (by simp at hl ⊢; omega) (fun u hu => h1 u (by simp [hu]))
    refine ⟨w', ?_, hb', Upd.trans (w1 := w.setCell ⟨b, o + i, none⟩ v) ⟨rfl, rfl, rfl, by simp [World.setCell], fun k hk hn => Below.heap_setCell _ _ _ _ hn⟩ hu (fun x hx _ => hx), by rw [hsz]; simp [World.setCell]⟩
    have hst : (store ((⟨b, o, none⟩ : Addr).add i) v).run P w = .ok () (w.setCell ⟨b, o + i, none⟩ v) := by
      rw [addr_add]
      have h1v := h1 v (by simp)
      cases v <;> simp_all [store, Sem.run, Value.oneCell']
    unfold storeCells
    rw [Sem.run_bind, hst, Result.andThen_ok]
    exact hr

theorem storeVar_cl {P : Program} {b o T : Nat} {E : TypeId} {cs : List Value} {v : Value} {vs : List Value} (hz : (P.info? T).map (·.size) = some vs.length) (hv : v.cells = vs.toArray) (h1 : vs.all Value.oneCell' = true)
    (hb : w.heap[b]? = some (.cells cs.toArray E (0, 0))) (hl : o + vs.length ≤ cs.length) :
    ∃ w', (storeVar T ⟨b, o, none⟩ v).run P w = .ok () w' ∧ w'.heap[b]? = some (.cells (repl cs o vs).toArray E (0, 0)) ∧ Upd (fun x => x = b) w w' ∧ w'.heap.size = w.heap.size := by
  obtain ⟨inf, hi, hh⟩ := Option.map_eq_some_iff.1 hz
  obtain ⟨w', hr, rest⟩ := run_storeCells_cl (P := P) vs cs o 0 w hb (by omega) (fun u hu => List.all_eq_true.1 h1 u hu)
  refine ⟨w', ?_, rest⟩
  unfold storeVar
  rw [Sem.run_bind, run_sizeOf hi]
  simp only [Result.andThen_ok, hv, hh, List.size_toArray, ne_eq, not_true_eq_false, if_false]
  exact hr

theorem ot_store {k b o T E : Nat} {x y : Operand} {ty : TypeId} {pos : String} {af : Array Edge} {v : Value} {cs vs cs' : List Value} (ex : ev L x = some (.pointer (some ⟨b, o, none⟩))) (ey : ev L y = some v)
    (hk : Fs[k]? = some (Pc.cl b cs E)) (hv : v.cells = vs.toArray) (hz : (X.P.info? T).map (·.size) = some vs.length) (h1 : vs.all Value.oneCell' = true) (hl : Nat.ble (o + vs.length) cs.length = true) (hcs : repl cs o vs = cs')
    (h : C L (Fs.set k (Pc.cl b cs' E))) : OT X ⟨none, .store T x y, ty, pos, af, g⟩ L Fs C :=
  ot_eff0 (fun w a hs hf => by
    obtain ⟨w', hr, hb', hu, hsz⟩ := storeVar_cl (P := X.P) hz hv h1 (hs.hd.clAt hk) (Nat.le_of_ble_eq_true hl)
    refine ⟨w', ?_, hs.upd1 hk fun S hA hb => ⟨S, ⟨hA.1, hcs ▸ hb'⟩, hu.mono fun x hx _ => (hA.1 x).2 hx, fun b hb => .inl hb⟩⟩
    simp only [execOp, hf.ev ex, hf.ev ey, Instr.storeAt, Instr.sureAddr, Sem.run_bind, Sem.run_pure, Result.andThen_ok, hr]) h

/-! ### append -/
/-- what a slice's elements are, for append's law -/
def elemInfo (P : Program) (t : TypeId) : Option (Nat × Nat × Nat) :=
  match P.underlying t with
  | some (.slice e) => match P.info? e with
    | some i => match i.zero with
      | some z => if z.cells.size = i.size ∧ 0 < i.size then some (e, i.size, i.bytes) else none
      | none => none
    | none => none
  | _ => none
theorem elemInfo_spec {P : Program} {t e sz by_ : Nat} (h : elemInfo P t = some (e, sz, by_)) : ∃ i z, P.underlying t = some (.slice e) ∧ P.info? e = some i ∧ i.zero = some z ∧ i.size = sz ∧ i.bytes = by_ ∧ z.cells.size = sz ∧ 0 < sz := by
  unfold elemInfo at h
  split at h <;> try contradiction
  rename_i e' hu
  split at h <;> try contradiction
  rename_i i hi
  split at h <;> try contradiction
  rename_i z hz
  split at h <;> try contradiction
  rename_i hc
  simp only [Option.some.injEq, Prod.mk.injEq] at h
  obtain ⟨rfl, rfl, rfl⟩ := h
  exact ⟨i, z, hu, hi, hz, rfl, rfl, hc.1, hc.2⟩

theorem ownsRow_mono {w : World} {b b' E sz n : Nat} {v : Value} {xs : List Value} (h : w.ownsRow b E sz v n xs) (hb : b' ≤ b) : w.ownsRow b' E sz v n xs := by
  refine ⟨h.1, ?_⟩
  rcases h.2 with hn | ⟨g, cap, cur, hv, hg, rest⟩
  · exact .inl hn
  · exact .inr ⟨g, cap, cur, hv, by omega, rest⟩

theorem run_append_none {P : Program} {t ty E : TypeId} {inf : TypeInfo} {w : World} {b sz n : Nat} {v : Value} {xs : List Value} (hu : P.underlying t = some (.slice E)) (hi : P.info? E = some inf) (h : w.ownsRow b E sz v n xs) (A : Option Addr) (c : Nat) (w' : World) :
    (Builtin.append_ #[t, t] ty #[v, .slice A 0 c]).run P w' = .ok v w' := by
  have hform : ∃ base l cp, v = .slice base l cp ∧ l ≤ cp := by
    rcases h.2 with ⟨rfl, _⟩ | ⟨g, cap, cur, rfl, _, _, hnc, _⟩
    · exact ⟨none, 0, 0, rfl, Nat.le_refl _⟩
    · exact ⟨_, _, _, rfl, hnc⟩
  obtain ⟨base, l, cp, rfl, hl⟩ := hform
  cases base <;> cases A <;> simp [Builtin.append_, run_underlying hu, sizeOf, typeInfo, hi, Builtin.lenOf, hl, Builtin.firstCells, loadCells, loadCellsFrom, storeCells, go_sem]

/-- append(v, src...) onto a slice that the call owns: m elements read anywhere. -/
theorem ot_append {d k t E sz by_ nn m c c0 : Nat} {x y : Operand} {ty : TypeId} {pos : String} {af : Array Edge} {A A0 : Option Addr} {xs news : List Value}
    (hE : elemInfo X.P t = some (E, sz, by_)) (ex : ev L x = some (.slice A0 nn c0)) (ey : ev L y = some (.slice A m c)) (hk : Fs[k]? = some (Pc.row A0 c0 E sz nn xs))
    (hl : news.length = m * sz) (hnews : ∀ w, Hd X.K X.w0 w Fs → m = 0 ∨ ∃ b o, A = some ⟨b, o, none⟩ ∧ Cells w b o news) (h1 : news.all Value.oneCell' = true) (hb : (nn + m) * by_ ≤ 140737488355328) (hby : 0 < by_)
    (hd : Nat.ble (d + 1) X.n = true)
    (h : ∀ A' c', (A' = none → nn + m = 0) → C ((d, .slice A' (nn + m) c') :: L) (Fs.set k (Pc.row A' c' E sz (nn + m) (xs ++ news)))) :
    OT X ⟨some d, .call { callee := .builtin .append, args := #[x, y], argTypes := #[t, t] }, ty, pos, af, g⟩ L Fs C :=
  ot_eff (γ := Option Addr × Nat) (Φ := fun g => g.1 = none → nn + m = 0) (v := fun g => .slice g.1 (nn + m) g.2) (H := fun g => Fs.set k (Pc.row g.1 g.2 E sz (nn + m) (xs ++ news))) (fun w a hs hf => by
    obtain ⟨inf, z, hu, hi, hz, hsz, hby', hzs, hpos⟩ := elemInfo_spec hE
    obtain ⟨S, hA, hSb⟩ := hs.get hk
    have hmax : nn + m ≤ maxLen := by
      have : nn + m ≤ (nn + m) * by_ := Nat.le_mul_of_pos_right _ hby
      unfold maxLen; omega
    have run : ∃ v' w', (Builtin.append_ #[t, t] ty #[.slice A0 nn c0, .slice A m c]).run X.P w = .ok v' w' ∧ w'.ownsRow 0 E sz v' (nn + m) (xs ++ news) ∧ w.grownBy w' (Value.slice A0 nn c0).ownBlock ∧ (v'.ownBlock = (Value.slice A0 nn c0).ownBlock ∨ v'.ownBlock = some w.heap.size) := by
      rcases hnews w hs.hd with h0 | ⟨b, o, rfl, hcl⟩
      · subst h0
        have hn0 : news = [] := List.eq_nil_of_length_eq_zero (by simpa using hl)
        subst hn0
        exact ⟨_, w, run_append_none hu hi hA.2 A c w, by simpa using hA.2, ⟨rfl, rfl, rfl, Nat.le_refl _, fun _ _ _ => rfl⟩, .inl rfl⟩
      · obtain ⟨v', w', q1, q2, q3, _, q5⟩ := run_append_own_at w 0 t ty E inf z sz by_ hu hi hz hsz hby' hzs hpos _ nn xs hA.2 ⟨b, o, none⟩ m c news hl (fun j u hj => by rw [addr_add]; exact hcl j u hj) (fun u hu => List.all_eq_true.1 h1 u hu) hmax hb (Nat.zero_le _)
        exact ⟨v', w', q1, q2, q3, q5⟩
    obtain ⟨v', w', hr, hown, hg, hat⟩ := run
    obtain ⟨A', c', rfl, hnone⟩ : ∃ A' c', v' = .slice A' (nn + m) c' ∧ (A' = none → nn + m = 0) := by
      rcases hown.2 with ⟨rfl, hz⟩ | ⟨g', cap, cur, rfl, _⟩
      · exact ⟨none, 0, by rw [hz], fun _ => hz⟩
      · exact ⟨_, cap, rfl, fun h => by cases h⟩
    refine ⟨(A', c'), w', ?_, hs.upd1 hk fun S hA hb => ⟨fun x => (Value.slice A' (nn + m) c').ownBlock = some x, ⟨fun x => Iff.rfl, hown⟩, (Upd.of_grownBy hg).mono fun x hx _ => (hA.1 x).2 hx.symm, fun x hx => ?_⟩, hnone⟩
    · simp only [execOp, resolve, List.map_toArray, List.map_cons, List.map_nil, hf.ev ex, hf.ev ey, invoke, builtin, Sem.run_bind, Sem.run_pure, Result.andThen_ok, hr]
    · have hlt := (hown.lt x hx).2
      rcases hat with h | h
      · exact .inl ((hA.1 x).2 (h ▸ hx))
      · rw [h] at hx; simp only [Option.some.injEq] at hx; exact .inr ⟨by omega, hlt⟩) hd fun g hg => h g.1 g.2 hg

/-! ### a literal slice -/
theorem foldl_set (vs : List Value) : ∀ (k o : Nat) (A : List Value), o + k + vs.length ≤ A.length →
    (vs.zipIdx k).foldl (fun cs (c, j) => cs.setIfInBounds (o + j) c) A.toArray = (A.take (o + k) ++ vs ++ A.drop (o + k + vs.length)).toArray := by
  induction vs with
  | nil => intro k o A h; simp
  | cons v vs ih =>
    intro k o A h
    simp only [List.length_cons] at h
    simp only [List.zipIdx_cons, List.foldl_cons, List.setIfInBounds_toArray]
    rw [ih (k + 1) o (A.set (o + k) v) (by simp; omega)]
    congr 1
    apply List.ext_getElem?
    intro i
    simp only [List.getElem?_append, List.length_append, List.length_take, List.length_set, List.getElem?_take, List.getElem?_set, List.getElem?_drop, List.length_cons]
    have e1 : min (o + (k + 1)) A.length = o + k + 1 := by omega
    have e2 : min (o + k) A.length = o + k := by omega
    rw [e1, e2]
    by_cases h1 : i < o + k
    · simp [h1, show i < o + k + 1 by omega, show i < o + (k + 1) by omega, show ¬ (o + k = i) by omega, show i < o + k + 1 + vs.length by omega, show i < o + k + (vs.length + 1) by omega]
    · by_cases h2 : i = o + k
      · subst h2
        simp [show o + k < o + (k + 1) by omega, show o + k < A.length by omega, show o + k < o + k + 1 + vs.length by omega]
      · by_cases h3 : i < o + k + 1 + vs.length
        · have e3 : i - (o + k) = (i - (o + k + 1)) + 1 := by omega
          simp [h1, h3, show ¬ i < o + k + 1 by omega, show i < o + k + (vs.length + 1) by omega, e3]
        · simp [h1, h3, show ¬ i < o + k + 1 by omega, show ¬ i < o + k + (vs.length + 1) by omega, show ¬ (o + k = o + (k + 1) + vs.length + (i - (o + k + 1 + vs.length))) by omega]
          congr 1; omega

/-- a slice literal that writes out each of its elements -/
theorem fill_full {sz : Nat} (vs : List Value) : ∀ (j : Nat) (A : List Value), A.length = (j + vs.length) * sz → (∀ v ∈ vs, v.cells.size = sz) →
    Instr.fill (fun i => some (i * sz, sz)) A.toArray ((vs.zipIdx j).map fun (v, i) => (i, v)) = some (A.take (j * sz) ++ vs.flatMap fun v => v.cells.toList).toArray := by
  induction vs with
  | nil => intro j A h _; simp [Instr.fill, List.take_of_length_le (show A.length ≤ j * sz by simp at h; omega)]
  | cons v vs ih =>
    intro j A h hv
    have h1 := hv v (by simp)
    have hlen : A.length = j * sz + sz + vs.length * sz := by rw [h]; simp only [List.length_cons, Nat.add_mul]; omega
    simp only [List.zipIdx_cons, List.map_cons, Instr.fill, h1, List.size_toArray]
    rw [if_neg (by simp; omega)]
    have hf := foldl_set v.cells.toList 0 (j * sz) A (by simp [h1]; omega)
    have hz : v.cells.zipIdx.foldl (fun cs x => cs.setIfInBounds (j * sz + x.2) x.1) A.toArray = (A.take (j * sz) ++ v.cells.toList ++ A.drop (j * sz + sz)).toArray := by
      rw [← Array.foldl_toList, Array.toList_zipIdx]
      simpa [h1] using hf
    rw [hz, ih (j + 1) _ (by simp [h1, hlen, Nat.add_mul]; omega) (fun u hu => hv u (by simp [hu]))]
    congr 2
    simp only [List.flatMap_cons]
    rw [← List.append_assoc]
    congr 1
    rw [List.take_append_of_le_length (by simp [h1, hlen, Nat.add_mul]; omega)]
    rw [List.take_of_length_le (by simp [h1, hlen, Nat.add_mul]; omega)]
theorem run_buildSlice {P : Program} {t E sz by_ : Nat} (hE : elemInfo P t = some (E, sz, by_)) (vs : List Value) (hv : vs.all (fun v => Nat.beq v.cells.size sz) = true) (hl : Nat.ble (vs.length * sz) 16777216 = true) (w : World) :
    (Instr.buildSlice t vs.length ((vs.zipIdx).map fun (v, i) => (i, v)).toArray).run P w = .ok (.slice (some ⟨w.heap.size, 0, none⟩) vs.length vs.length) (w.alloc (.cells (vs.flatMap fun v => v.cells.toList).toArray E)) := by
  obtain ⟨inf, z, hu, hi, hz, hsz, hby', hzs, hpos⟩ := elemInfo_spec hE
  have hl' := Nat.le_of_ble_eq_true hl
  have hfill : ∀ B : Array Value, B.size = vs.length * sz → Instr.fill (fun i => some (i * sz, sz)) B ((vs.zipIdx).map fun (v, i) => (i, v)) = some (vs.flatMap fun v => v.cells.toList).toArray := by
    intro B hB
    have := fill_full (sz := sz) vs 0 B.toList (by simpa using hB) (fun v hvv => Nat.eq_of_beq_eq_true (List.all_eq_true.1 hv v hvv))
    simpa using this
  unfold Instr.buildSlice
  simp only [Sem.run_bind, run_underlying hu, Result.andThen_ok, run_sizeOf hi, hsz]
  rw [if_neg (by omega)]
  by_cases h0 : vs.length * sz = 0
  · rw [if_pos h0]
    simp only [Sem.run_bind, Sem.run_pure, Result.andThen_ok]
    rw [hfill _ (by simp)]
    rfl
  · rw [if_neg h0]
    have hzr : (zeroValue E).run P w = .ok z w := run_zero (by simp [zeroB, hi, hz]) w
    simp only [Sem.run_bind, Sem.run_pure, Result.andThen_ok, hzr]
    rw [hfill _ (by simp)]
    rfl
/-- the values of a literal whose parts stand in their order -/
def evl (L : List (Nat × Value)) : Nat → List (Nat × Operand) → Option (List Value)
  | _, [] => some []
  | k, (i, x) :: r => bif Nat.beq i k then (match ev L x, evl L (k + 1) r with
    | some v, some vs => some (v :: vs)
    | _, _ => none) else none
theorem evl_evp : ∀ {parts : List (Nat × Operand)} {k : Nat} {vs : List Value}, evl L k parts = some vs → evp L parts = some ((vs.zipIdx k).map fun (v, i) => (i, v))
  | [], k, vs, e => by simp [evl] at e; subst e; rfl
  | (i, x) :: r, k, vs, e => by
    unfold evl at e
    cases hb : Nat.beq i k with
    | false => rw [hb] at e; simp at e
    | true =>
      rw [hb] at e
      obtain rfl := Nat.eq_of_beq_eq_true hb
      simp only [cond_true] at e
      split at e <;> try contradiction
      rename_i v vs' h1 h2
      simp only [Option.some.injEq] at e
      subst e
      simp [evp, h1, evl_evp h2]
theorem ot_buildSlice {d t E sz by_ len : Nat} {parts : List (Nat × Operand)} {vs : List Value} {ty : TypeId} {pos : String} {af : Array Edge} {cs : List Value} (hE : elemInfo X.P t = some (E, sz, by_)) (e : evl L 0 parts = some vs)
    (hlen : vs.length = len) (hv : vs.all (fun v => Nat.beq v.cells.size sz) = true) (hl : Nat.ble (vs.length * sz) 16777216 = true) (hcs : (vs.flatMap fun v => v.cells.toList) = cs) (hd : Nat.ble (d + 1) X.n = true)
    (h : ∀ b, C ((d, .slice (some ⟨b, 0, none⟩) len len) :: L) (Pc.cl b cs E :: Fs)) : OT X ⟨some d, .buildSlice t len parts.toArray, ty, pos, af, g⟩ L Fs C :=
  ot_eff (γ := Nat) (Φ := fun _ => True) (v := fun b => .slice (some ⟨b, 0, none⟩) len len) (H := fun b => Pc.cl b cs E :: Fs) (fun w a hs hf =>
    ⟨w.heap.size, w.alloc (.cells cs.toArray E), by
      subst hlen hcs
      simp only [execOp]
      rw [parts_eval hf (evl_evp e), Sem.run_bind, run_buildSlice hE vs hv hl w]; rfl, hs.alloc cs E, trivial⟩) hd fun b _ => h b
end Go.Bz
