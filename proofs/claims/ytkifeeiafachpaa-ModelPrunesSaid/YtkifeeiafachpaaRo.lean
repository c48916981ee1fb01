/- Slices that are read. Nothing of the program stands here. -/
import Derived.Test.YtkifeeiafachpaaSl
set_option linter.unusedVariables false
set_option linter.unusedSimpArgs false
namespace Go.Bz
open Go Go.RowKit

variable {X : Cx} {ops : Array Oper} {rest : List Oper} {Q Q' : Exit → Act → World → Prop} {L L' : List (Nat × Value)} {Fs Fs' : List Pc}
variable {K : Nat → Prop} {w0 w w' : World} {C : List (Nat × Value) → List Pc → Prop} {g : Option (Nat × Bool)} {P : Program} {n : Nat}

/-- the cells behind a slice's address -/
def SlR (w : World) (A : Option Addr) (us : List Value) : Prop := us = [] ∨ ∃ b o, A = some ⟨b, o, none⟩ ∧ Cells w b o us
theorem Cells.lt {b o : Nat} {us : List Value} (h : Cells w b o us) (hn : us ≠ []) : b < w.heap.size := by
  cases us with
  | nil => exact absurd rfl hn
  | cons u us => have := h 0 u rfl; exact World.block_lt_of_cell? w ⟨b, o + 0, none⟩ this
theorem Cells.keep {b o : Nat} {us : List Value} (h : Cells w b o us) (k : w'.heap[b]? = w.heap[b]?) : Cells w' b o us := fun j u hj => by
  rw [World.cell?_of_block (w := w) k]; exact h j u hj
/-- a slice that is only read, of blocks of its own -/
def roP (A : Option Addr) (us : List Value) : Pc :=
  .gen (fun S w => (us = [] ∧ ∀ x, ¬ S x) ∨ ∃ b o, A = some ⟨b, o, none⟩ ∧ Cells w b o us ∧ ∀ x, S x ↔ x = b)
    (fun h k => h.imp id (fun ⟨b, o, h1, h2, h3⟩ => ⟨b, o, h1, h2.keep (k b ((h3 b).2 rfl)), h3⟩))
theorem Hd.ro {k : Nat} {A : Option Addr} {us : List Value} (h : Hd K w0 w Fs) (e : Fs[k]? = some (roP A us)) : SlR w A us := by
  obtain ⟨S, hA⟩ := h.all _ _ e
  rcases hA with ⟨h, _⟩ | ⟨b, o, h1, h2, _⟩
  · exact .inl h
  · exact .inr ⟨b, o, h1, h2⟩
theorem Hd.rowR {k n' E sz c : Nat} {A : Option Addr} {xs : List Value} (h : Hd K w0 w Fs) (e : Fs[k]? = some (Pc.row A c E sz n' xs)) : SlR w A xs := by
  obtain ⟨S, hA⟩ := h.all _ _ e
  rcases hA.2.2 with ⟨h1, h2⟩ | ⟨b, cap, cur, h1, _⟩
  · subst h2; exact .inl (List.eq_nil_of_length_eq_zero (by simpa using hA.2.1))
  · simp only [Value.slice.injEq] at h1
    obtain ⟨rfl, _, _⟩ := h1
    refine .inr ⟨b, 0, rfl, fun j u hj => ?_⟩
    have := hA.2.cells (g := b) rfl j u hj
    rwa [addr_add] at this
theorem Hd.rd0 {A : Option Addr} {us : List Value} (h : Hd K w0 w Fs) (hR : SlR w0 A us) (hK : ∀ b o, A = some ⟨b, o, none⟩ → us ≠ [] → ¬ K b) : SlR w A us := by
  by_cases hu : us = []
  · exact .inl hu
  · rcases hR with h1 | ⟨b, o, h1, h2⟩
    · exact .inl h1
    · exact .inr ⟨b, o, h1, h2.keep (h.upd.block b (h2.lt hu) (hK b o h1 hu))⟩
theorem Hd.rd0n {A : Option Addr} {us : List Value} (h : Hd noB w0 w Fs) (hR : SlR w0 A us) : SlR w A us := h.rd0 hR fun _ _ _ _ x => x
/-- an element of what was there when the call began -/
theorem Hd.at0 {b o j : Nat} {us : List Value} {u : Value} (hC : Cells w0 b o us) (hK : ¬ K b) (hu : us[j]? = some u) (w : World) (h : Hd K w0 w Fs) : w.cell? ⟨b, o + j, none⟩ = some u :=
  Hd.cell0 (hC j u hu) hK w h
theorem SlR.drop {A : Option Addr} {us : List Value} {l m sz : Nat} (h : SlR w A us) (hl : us.drop (l * sz) ≠ [] → l < m) : SlR w (sAddr A m l sz) (us.drop (l * sz)) := by
  by_cases hd : us.drop (l * sz) = []
  · exact .inl hd
  · rcases h with rfl | ⟨b, o, rfl, hc⟩
    · simp at hd
    · refine .inr ⟨b, o + l * sz, sAddr_lt (hl hd), fun j u hj => ?_⟩
      rw [List.getElem?_drop] at hj
      have := hc _ _ hj
      rwa [← Nat.add_assoc] at this
theorem SlR.take {A : Option Addr} {us : List Value} (h : SlR w A us) (m : Nat) : SlR w A (us.take m) := by
  rcases h with rfl | ⟨b, o, rfl, hc⟩
  · exact .inl (by simp)
  · exact .inr ⟨b, o, rfl, fun j u hj => hc j u (by rw [List.getElem?_take] at hj; split at hj; exact hj; cases hj)⟩

/-- a nil slice owns nothing -/
theorem St.nilRow (h : St K w0 w Fs) (E sz : Nat) : St K w0 w (Pc.row none 0 E sz 0 [] :: Fs) := by
  obtain ⟨T, hs, hT⟩ := h.sep
  refine ⟨h.upd, T, ⟨fun _ => False, T, ⟨fun x => by simp [Value.ownBlock], by simp, .inl ⟨rfl, rfl⟩⟩, hs, fun _ x => x.elim, fun b => by simp⟩, hT⟩
/-- a block of cells, as a slice that is owned -/
theorem St.clRow {k b E sz n' : Nat} {cs : List Value} (h : St K w0 w Fs) (e : Fs[k]? = some (Pc.cl b cs E)) (hl : cs.length = n' * sz) (hm : n' ≤ 9223372036854775807) : St K w0 w (Fs.set k (Pc.row (some ⟨b, 0, none⟩) n' E sz n' cs)) :=
  h.weak e fun S hA hb => ⟨S, ⟨fun x => by rw [hA.1 x]; simp [Value.ownBlock]; exact ⟨fun h => h.symm, fun h => h.symm⟩, hl, .inr ⟨b, n', cs.toArray, rfl, Nat.zero_le _, hA.2, Nat.le_refl _, by unfold maxLen; omega, by simp [hl], by simp [← hl]⟩⟩, fun _ h => h⟩
/-- what is owned is read alone from here on -/
theorem St.rowRo {k n' E sz c : Nat} {A : Option Addr} {xs : List Value} (h : St K w0 w Fs) (e : Fs[k]? = some (Pc.row A c E sz n' xs)) : St K w0 w (Fs.set k (roP A xs)) := by
  refine h.weak e fun S hA hb => ?_
  rcases hA.2.2 with ⟨h1, h2⟩ | ⟨b, cap, cur, h1, _⟩
  · simp only [Value.slice.injEq] at h1
    obtain ⟨rfl, _, _⟩ := h1
    subst h2
    exact ⟨S, .inl ⟨List.eq_nil_of_length_eq_zero (by simpa using hA.2.1), fun x hx => by have := (hA.1 x).1 hx; simp [Value.ownBlock] at this⟩, fun _ h => h⟩
  · simp only [Value.slice.injEq] at h1
    obtain ⟨rfl, _, rfl⟩ := h1
    refine ⟨S, .inr ⟨b, 0, rfl, fun j u hj => ?_, fun x => by rw [hA.1 x]; simp [Value.ownBlock]; exact ⟨fun h => h.symm, fun h => h.symm⟩⟩, fun _ h => h⟩
    have := hA.2.cells (g := b) rfl j u hj
    rwa [addr_add] at this
/-- the slice from l on -/
theorem St.roDrop {k l m sz : Nat} {A : Option Addr} {us : List Value} (h : St K w0 w Fs) (e : Fs[k]? = some (roP A us)) (hl : us.drop (l * sz) ≠ [] → l < m) : St K w0 w (Fs.set k (roP (sAddr A m l sz) (us.drop (l * sz)))) := by
  refine h.weak e fun S hA hb => ?_
  by_cases hd : us.drop (l * sz) = []
  · exact ⟨fun _ => False, .inl ⟨hd, fun _ x => x⟩, fun _ x => x.elim⟩
  · rcases hA with ⟨rfl, _⟩ | ⟨b, o, rfl, hc, hS⟩
    · simp at hd
    · refine ⟨S, .inr ⟨b, o + l * sz, sAddr_lt (hl hd), fun j u hj => ?_, hS⟩, fun _ h => h⟩
      rw [List.getElem?_drop] at hj
      have := hc _ _ hj
      rwa [← Nat.add_assoc] at this
/-! ### a struct written out -/
/-- where each field lies, and how many cells it has -/
def placesB (P : Program) (t : TypeId) : Option (List (Nat × Nat)) := match P.underlying t with
  | some (.struct fields) => fields.toList.mapM fun f => (P.info? f.type).map fun i => (f.offset, i.size)
  | _ => none
def bldL (pl : List (Nat × Nat)) (zs : List Value) : List (Nat × Value) → List Value
  | [] => zs
  | (i, v) :: r => bldL pl (repl zs ((pl[i]?).getD (0, 0)).1 v.cells.toList) r
def bldOk (pl : List (Nat × Nat)) (N : Nat) (ps : List (Nat × Value)) : Bool := ps.all fun q => match pl[q.1]? with
  | some (o, s) => Nat.beq q.2.cells.toList.length s && Nat.ble (o + s) N
  | none => false
theorem length_repl : ∀ (vs cs : List Value) (o : Nat), (repl cs o vs).length = cs.length
  | [], _, _ => rfl
  | v :: vs, cs, o => by rw [repl, length_repl vs]; simp
theorem fill_struct {pl : List (Nat × Nat)} : ∀ (ps : List (Nat × Value)) (zs : List Value) {N : Nat}, zs.length = N → bldOk pl N ps = true → Instr.fill (fun i => pl.toArray[i]?) zs.toArray ps = some (bldL pl zs ps).toArray
  | [], zs, N, hN, h => rfl
  | (i, v) :: r, zs, N, hN, h => by
    simp only [bldOk, List.all_cons, Bool.and_eq_true] at h
    obtain ⟨h1, h2⟩ := h
    cases hp : pl[i]? with
    | none => rw [hp] at h1; simp at h1
    | some q =>
      obtain ⟨o, s⟩ := q
      rw [hp] at h1
      simp only [Bool.and_eq_true] at h1
      have e1 : v.cells.size = s := by have := Nat.eq_of_beq_eq_true h1.1; simpa using this
      have e2 := Nat.le_of_ble_eq_true h1.2
      unfold Instr.fill
      have hpi : pl.toArray[i]? = some (o, s) := by simpa using hp
      simp only [hpi]
      rw [if_neg (by simp [e1]; omega)]
      have hf := foldl_set v.cells.toList 0 o zs (by simp [e1]; omega)
      have hz : v.cells.zipIdx.foldl (fun cs x => cs.setIfInBounds (o + x.2) x.1) zs.toArray = (repl zs o v.cells.toList).toArray := by
        rw [← Array.foldl_toList, Array.toList_zipIdx, repl_eq _ _ _ (by simp [e1]; omega)]
        simpa using hf
      rw [hz, fill_struct r _ (by rw [length_repl]; exact hN) h2]
      simp [bldL, hp]
theorem mapM_run {P : Program} {α β : Type} (f : α → Sem β) (gg : α → Option β) (hfg : ∀ x y, gg x = some y → ∀ w : World, (f x).run P w = .ok y w) : ∀ (l : List α) (r : List β), l.mapM gg = some r → ∀ w : World, (l.mapM f).run P w = .ok r w
  | [], r, h, w => by simp at h; subst h; rfl
  | x :: l, r, h, w => by
    simp only [List.mapM_cons, Option.bind_eq_bind, Option.bind_eq_some_iff, Option.pure_def, Option.some.injEq] at h
    obtain ⟨y, hy, ys, hys, rfl⟩ := h
    rw [List.mapM_cons]
    simp only [Sem.run_bind, hfg x y hy w, Result.andThen_ok, mapM_run f gg hfg l ys hys w, Sem.run_pure]
theorem run_build_struct {P : Program} {t : TypeId} {pl : List (Nat × Nat)} {zs : List Value} (hp : placesB P t = some pl) (hz : zeroB P t = some (.agg zs.toArray)) (ps : List (Nat × Value)) (hok : bldOk pl zs.length ps = true) (w : World) :
    (Instr.build t ps.toArray).run P w = .ok (.agg (bldL pl zs ps).toArray) w := by
  unfold placesB at hp
  split at hp <;> try contradiction
  rename_i fields hu
  have hm : (fields.mapM fun f : Field => (do pure (f.offset, ← sizeOf f.type) : Sem (Nat × Nat))).run P w = .ok pl.toArray w := by
    have h1 := mapM_run (P := P) (fun f : Field => (do pure (f.offset, ← sizeOf f.type) : Sem (Nat × Nat))) (fun f => (P.info? f.type).map fun i => (f.offset, i.size))
      (fun f y hy w => by
        obtain ⟨inf, hi, rfl⟩ := Option.map_eq_some_iff.1 hy
        simp only [Sem.run_bind, run_sizeOf hi, Result.andThen_ok, Sem.run_pure]) fields.toList pl hp w
    rw [Array.mapM_eq_mapM_toList]
    show ((fun l => List.toArray l) <$> _ : Sem _).run P w = _
    rw [← bind_pure_comp, Sem.run_bind, h1]; rfl
  unfold Instr.build
  simp only [Sem.run_bind, run_zero hz, Result.andThen_ok, run_underlying hu, hm]
  have hf := fill_struct ps zs (N := zs.length) rfl hok
  have hc : (Value.agg zs.toArray).cells = zs.toArray := rfl
  rw [hc, hf]
  rfl
theorem rv_buildS {t : TypeId} {ty : TypeId} {parts : List (Nat × Operand)} {ps : List (Nat × Value)} {pl : List (Nat × Nat)} {zs : List Value} (hp : placesB P t = some pl) (hz : zeroB P t = some (.agg zs.toArray)) (e : evp L parts = some ps) (hok : bldOk pl zs.length ps = true) {r : List Value} (hr : bldL pl zs ps = r) :
    RV P K w0 n L Fs (.build t parts.toArray) ty (.agg r.toArray) := hr ▸ rv_build e (run_build_struct hp hz ps hok)
end Go.Bz
