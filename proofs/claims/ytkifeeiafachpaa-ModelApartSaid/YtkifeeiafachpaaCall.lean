/- Contracts, and calls by them. Nothing of the program stands here. -/
import Derived.Test.YtkifeeiafachpaaDraw
set_option linter.unusedVariables false
set_option linter.unusedSimpArgs false
namespace Go.Bz
open Go Go.RowKit

variable {K : Nat → Prop} {w0 w w' : World} {F F' : Pc} {Fs Gs : List Pc}

theorem Sep.append : ∀ {Gs Fs : List Pc} {T1 T2 : Nat → Prop} {w : World}, Sep Gs T1 w → Sep Fs T2 w → (∀ b, T1 b → ¬ T2 b) → Sep (Gs ++ Fs) (fun b => T1 b ∨ T2 b) w
  | [], Fs, T1, T2, w, h1, h2, hd => by
    have : (fun b => T1 b ∨ T2 b) = T2 := by funext b; simp [h1 b]
    rw [List.nil_append, this]; exact h2
  | G :: Gs, Fs, T1, T2, w, ⟨S, T', hA, hs, hdd, hT⟩, h2, hd =>
    ⟨S, fun b => T' b ∨ T2 b, hA, Sep.append hs h2 (fun b hb => hd b ((hT b).2 (.inr hb))), fun b h1 h3 => h3.elim (hdd b h1) (hd b ((hT b).2 (.inl h1))), fun b => by
      constructor
      · rintro (h | h)
        · rcases (hT b).1 h with h | h
          · exact .inl h
          · exact .inr (.inl h)
        · exact .inr (.inr h)
      · rintro (h | h | h)
        · exact .inl ((hT b).2 (.inl h))
        · exact .inl ((hT b).2 (.inr h))
        · exact .inr h⟩
theorem Sep.split : ∀ {Gs Fs : List Pc} {T : Nat → Prop} {w : World}, Sep (Gs ++ Fs) T w → ∃ T1 T2, Sep Gs T1 w ∧ Sep Fs T2 w ∧ (∀ b, T1 b → ¬ T2 b) ∧ ∀ b, T b ↔ (T1 b ∨ T2 b)
  | [], Fs, T, w, h => ⟨fun _ => False, T, fun _ h => h, h, fun _ h => h.elim, fun b => by simp⟩
  | G :: Gs, Fs, T, w, ⟨S, T', hA, hs, hd, hT⟩ => by
    obtain ⟨T1, T2, h1, h2, h3, h4⟩ := Sep.split hs
    refine ⟨fun b => S b ∨ T1 b, T2, ⟨S, T1, hA, h1, fun b a c => hd b a ((h4 b).2 (.inl c)), fun _ => Iff.rfl⟩, h2, fun b h h' => ?_, fun b => ?_⟩
    · rcases h with h | h
      · exact hd b h ((h4 b).2 (.inr h'))
      · exact h3 b h h'
    · rw [hT b, h4 b]
      constructor
      · rintro (h | h | h)
        · exact .inl (.inl h)
        · exact .inl (.inr h)
        · exact .inr h
      · rintro ((h | h) | h)
        · exact .inl h
        · exact .inr (.inl h)
        · exact .inr (.inr h)

/-- Behind a call that turns nothing of what was there: what it made is added. -/
theorem St.call (h : St K w0 w Fs) (c : St noB w w' Gs) : St K w0 w' (Gs ++ Fs) := by
  obtain ⟨T, hs, hT⟩ := h.sep
  obtain ⟨T1, hs1, hT1⟩ := c.sep
  have hb : ∀ b, T1 b → w.heap.size ≤ b ∧ b < w'.heap.size := fun b hb => ⟨(hT1 b hb).1.resolve_left (fun x => x), (hT1 b hb).2⟩
  refine ⟨h.upd.trans c.upd (fun b hb _ => hb.elim), _, hs1.append (hs.keep fun b hb => c.upd.block b (hT b hb).2 (fun x => x)) (fun b h1 h2 => by have := (hb b h1).1; have := (hT b h2).2; omega), fun b hbb => ?_⟩
  rcases hbb with h1 | h1
  · exact ⟨.inr (Nat.le_trans h.upd.size (hb b h1).1), (hb b h1).2⟩
  · exact ⟨(hT b h1).1, Nat.lt_of_lt_of_le (hT b h1).2 c.upd.size⟩

/-- Behind a call that takes a piece: others come in its place. -/
theorem St.callM (h : St K w0 w (F :: Fs)) (c : ∀ S, F.A S w → (∀ b, S b → b < w.heap.size) → ∃ S', St S' w w' Gs ∧ ∀ b, S' b → S b) : St K w0 w' (Gs ++ Fs) := by
  obtain ⟨T, ⟨S, T2, hA, hs, hd, hT⟩, hTb⟩ := h.sep
  obtain ⟨S', c, hS'⟩ := c S hA (fun b hb => (hTb b ((hT b).2 (.inl hb))).2)
  obtain ⟨T1, hs1, hT1⟩ := c.sep
  have hsz := c.upd.size
  have hin : ∀ b, T1 b → S b ∨ (w.heap.size ≤ b ∧ b < w'.heap.size) := fun b hb => ((hT1 b hb).1.imp (hS' b) id).imp id (fun x => ⟨x, (hT1 b hb).2⟩)
  refine ⟨h.upd.trans c.upd (fun b hb hlt => ?_), _, hs1.append (hs.keep fun b hb => c.upd.block b (hTb b ((hT b).2 (.inr hb))).2 (fun x => hd b (hS' b x) hb)) (fun b h1 h2 => ?_), fun b hbb => ?_⟩
  · rcases (hTb b ((hT b).2 (.inl (hS' b hb)))).1 with h | h
    · exact h
    · omega
  · rcases hin b h1 with h | h
    · exact hd b h h2
    · have := (hTb b ((hT b).2 (.inr h2))).2; omega
  · rcases hbb with h1 | h1
    · rcases hin b h1 with h2 | h2
      · have := hTb b ((hT b).2 (.inl h2)); exact ⟨this.1, Nat.lt_of_lt_of_le this.2 hsz⟩
      · exact ⟨.inr (Nat.le_trans h.upd.size h2.1), h2.2⟩
    · have := hTb b ((hT b).2 (.inr h1)); exact ⟨this.1, Nat.lt_of_lt_of_le this.2 hsz⟩

/-! ### Pieces made of pieces -/
def grp (Gs : List Pc) : Pc := .gen (fun S w => Sep Gs S w) (fun h k => h.keep k)
def exP {α : Type} (f : α → Pc) : Pc := .gen (fun S w => ∃ x, (f x).A S w) (fun ⟨x, h⟩ k => ⟨x, (f x).loc h k⟩)
/-- a fact beside a piece -/
def andP (p : Prop) (F : Pc) : Pc := .gen (fun S w => p ∧ F.A S w) (fun ⟨h1, h⟩ k => ⟨h1, F.loc h k⟩)
theorem St.ungrp (h : St K w0 w (grp Gs :: Fs)) : St K w0 w (Gs ++ Fs) := by
  obtain ⟨T, ⟨S, T2, hA, hs, hd, hT⟩, hTb⟩ := h.sep
  exact ⟨h.upd, _, Sep.append hA hs hd, fun b hb => hTb b ((hT b).2 hb)⟩
theorem St.grp (h : St K w0 w (Gs ++ Fs)) : St K w0 w (grp Gs :: Fs) := by
  obtain ⟨T, hs, hTb⟩ := h.sep
  obtain ⟨T1, T2, h1, h2, h3, h4⟩ := hs.split
  exact ⟨h.upd, T, ⟨T1, T2, h1, h2, h3, h4⟩, hTb⟩
theorem St.unex {α : Type} {f : α → Pc} (h : St K w0 w (exP f :: Fs)) : ∃ x, St K w0 w (f x :: Fs) := by
  obtain ⟨T, ⟨S, T2, ⟨x, hA⟩, hs, hd, hT⟩, hTb⟩ := h.sep
  exact ⟨x, h.upd, T, ⟨S, T2, hA, hs, hd, hT⟩, hTb⟩
theorem St.ex {α : Type} {f : α → Pc} (x : α) (h : St K w0 w (f x :: Fs)) : St K w0 w (exP f :: Fs) := by
  obtain ⟨T, ⟨S, T2, hA, hs, hd, hT⟩, hTb⟩ := h.sep
  exact ⟨h.upd, T, ⟨S, T2, ⟨x, hA⟩, hs, hd, hT⟩, hTb⟩
theorem St.unand {p : Prop} (h : St K w0 w (andP p F :: Fs)) : p ∧ St K w0 w (F :: Fs) := by
  obtain ⟨T, ⟨S, T2, ⟨hp, hA⟩, hs, hd, hT⟩, hTb⟩ := h.sep
  exact ⟨hp, h.upd, T, ⟨S, T2, hA, hs, hd, hT⟩, hTb⟩
theorem St.and {p : Prop} (hp : p) (h : St K w0 w (F :: Fs)) : St K w0 w (andP p F :: Fs) := by
  obtain ⟨T, ⟨S, T2, hA, hs, hd, hT⟩, hTb⟩ := h.sep
  exact ⟨h.upd, T, ⟨S, T2, ⟨hp, hA⟩, hs, hd, hT⟩, hTb⟩

/-! ### Contracts -/
variable {X : Cx} {f : FuncId} {args : List Value} {γ : Type} {Φ : γ → Prop} {v : γ → Value} {G : γ → List Pc}
theorem callOk (h : ∀ w, Hd X.K X.w0 w Fs → Calls X.P f args.toArray w fun e w' => ∃ g, e = .returned (v g) ∧ St noB w w' (G g) ∧ Φ g) : CallOk X f args Fs Φ v (fun g => G g ++ Fs) := fun w hs =>
  (h w hs.hd).mono fun e w' ⟨g, he, hc, hΦ⟩ => ⟨g, he, hs.call hc, hΦ⟩
theorem callOkM {k : Nat} (hk : Fs[k]? = some F) (h : ∀ w S, Hd X.K X.w0 w Fs → F.A S w → (∀ b, S b → b < w.heap.size) → Calls X.P f args.toArray w fun e w' => ∃ g, e = .returned (v g) ∧ St S w w' (G g) ∧ Φ g) :
    CallOk X f args Fs Φ v (fun g => G g ++ Fs.eraseIdx k) := fun w hs => by
  obtain ⟨S, hA, hb⟩ := hs.get hk
  have h1 := hs.pull hk
  obtain ⟨T, ⟨S1, T2, hA1, hs1, hd1, hT1⟩, hTb⟩ := h1.sep
  refine (h w S1 hs.hd hA1 (fun b hb => (hTb b ((hT1 b).2 (.inl hb))).2)).mono fun e w' ⟨g, he, hc, hΦ⟩ => ⟨g, he, ?_, hΦ⟩
  have hsz := hc.upd.size
  obtain ⟨T1, hsG, hTG⟩ := hc.sep
  have hin : ∀ b, T1 b → S1 b ∨ (w.heap.size ≤ b ∧ b < w'.heap.size) := fun b hb => (hTG b hb).1.imp id (fun x => ⟨x, (hTG b hb).2⟩)
  refine ⟨hs.upd.trans hc.upd (fun b hb hlt => ?_), _, hsG.append (hs1.keep fun b hb => hc.upd.block b (hTb b ((hT1 b).2 (.inr hb))).2 (fun x => hd1 b x hb)) (fun b h1 h2 => ?_), fun b hbb => ?_⟩
  · rcases (hTb b ((hT1 b).2 (.inl hb))).1 with h | h
    · exact h
    · omega
  · rcases hin b h1 with h | h
    · exact hd1 b h h2
    · have := (hTb b ((hT1 b).2 (.inr h2))).2; omega
  · rcases hbb with h1 | h1
    · rcases hin b h1 with h2 | h2
      · have := hTb b ((hT1 b).2 (.inl h2)); exact ⟨this.1, Nat.lt_of_lt_of_le this.2 hsz⟩
      · exact ⟨.inr (Nat.le_trans hs.upd.size h2.1), h2.2⟩
    · have := hTb b ((hT1 b).2 (.inr h1)); exact ⟨this.1, Nat.lt_of_lt_of_le this.2 hsz⟩
end Go.Bz
