/- Arrays, cuts that keep what is not named, and pieces put in another order. Nothing of the program stands here. -/
import Derived.Test.YtkifeeiafachpaaFz
set_option linter.unusedVariables false
set_option linter.unusedSimpArgs false
namespace Go.Bz
open Go Go.RowKit

variable {X : Cx} {ops : Array Oper} {rest : List Oper} {Q Q' : Exit → Act → World → Prop} {L L' Lk : List (Nat × Value)} {Fs Fs' Fk Kp : List Pc} {c : Code}
variable {K : Nat → Prop} {w0 w w' wb : World} {C : List (Nat × Value) → List Pc → Prop} {g : Option (Nat × Bool)} {P : Program} {n : Nat} {ty : TypeId} {x y i : Operand} {pos : String} {af : Array Edge}

/-! ### what is kept -/
def restr (L : List (Nat × Value)) : List Nat → List (Nat × Value) → Option (List (Nat × Value))
  | [], acc => some acc
  | t :: ts, acc => match lk L t with
    | some v => restr L ts ((t, v) :: acc)
    | none => none
theorem restr_sub : ∀ {ts : List Nat} {acc L' : List (Nat × Value)}, restr L ts acc = some L' → Sub L acc → Sub L L'
  | [], acc, L', h, k => by
    simp only [restr, Option.some.injEq] at h
    subst h; exact k
  | t :: ts, acc, L', h, k => by
    unfold restr at h
    split at h
    · rename_i v hv; exact restr_sub h (k.cons hv)
    · cases h
def nthP : List Pc → Nat → Option Pc
  | [], _ => none
  | F :: _, 0 => some F
  | _ :: Fs, k + 1 => nthP Fs k
def pickP (Fs : List Pc) : List Nat → List Pc → Option (List Pc)
  | [], acc => some acc
  | k :: ks, acc => match nthP Fs k with
    | some F => pickP Fs ks (F :: acc)
    | none => none
def nodupB : List Nat → Bool
  | [] => true
  | k :: ks => (!(ks.any fun j => Nat.beq j k)) && nodupB ks
theorem Sep.fam : ∀ {Fs : List Pc} {T : Nat → Prop} {w : World}, Sep Fs T w → ∃ S : Nat → Nat → Prop, (∀ k F, nthP Fs k = some F → F.A (S k) w) ∧ (∀ k b, S k b → T b) ∧ ∀ j k b, j ≠ k → S j b → ¬ S k b
  | [], T, w, h => ⟨fun _ _ => False, fun k F e => by simp [nthP] at e, fun _ _ x => x.elim, fun _ _ _ _ x => x.elim⟩
  | F :: Fs, T, w, ⟨S0, T', hA, hs, hd, hT⟩ => by
    obtain ⟨S, h1, h2, h3⟩ := Sep.fam hs
    refine ⟨fun k => match k with | 0 => S0 | k + 1 => S k, fun k F' e => ?_, fun k b h => ?_, fun j k b hne h h' => ?_⟩
    · cases k with
      | zero => simp only [nthP, Option.some.injEq] at e; subst e; exact hA
      | succ k => exact h1 k F' e
    · cases k with
      | zero => exact (hT b).2 (.inl h)
      | succ k => exact (hT b).2 (.inr (h2 k b h))
    · cases j with
      | zero =>
        cases k with
        | zero => exact hne rfl
        | succ k => exact hd b h (h2 k b h')
      | succ j =>
        cases k with
        | zero => exact hd b h' (h2 j b h)
        | succ k => exact h3 j k b (fun e => hne (by rw [e])) h h'
theorem Sep.pick {S : Nat → Nat → Prop} {T : Nat → Prop} (h1 : ∀ k F, nthP Fs k = some F → F.A (S k) w) (h2 : ∀ k b, S k b → T b) (h3 : ∀ j k b, j ≠ k → S j b → ¬ S k b) : ∀ {ks : List Nat} {acc R : List Pc} {Ta : Nat → Prop},
    Sep acc Ta w → (∀ b, Ta b → T b) → (∀ k ∈ ks, ∀ b, Ta b → ¬ S k b) → nodupB ks = true → pickP Fs ks acc = some R → ∃ T', Sep R T' w ∧ ∀ b, T' b → T b
  | [], acc, R, Ta, hs, hT, _, _, e => by
    simp only [pickP, Option.some.injEq] at e
    subst e; exact ⟨Ta, hs, hT⟩
  | k :: ks, acc, R, Ta, hs, hT, hd, hn, e => by
    unfold pickP at e
    split at e
    · rename_i F hF
      simp only [nodupB, Bool.and_eq_true, Bool.not_eq_true'] at hn
      have hnk : ∀ j ∈ ks, j ≠ k := fun j hj hjk => by
        have := hn.1
        rw [List.any_eq_false] at this
        exact this j hj (by rw [hjk]; simp)
      have hs2 : Sep (F :: acc) (fun b => S k b ∨ Ta b) w := ⟨S k, Ta, h1 k F hF, hs, fun b hb hb' => hd k (by simp) b hb' hb, fun b => Iff.rfl⟩
      refine Sep.pick h1 h2 h3 (ks := ks) hs2 (fun b hb => hb.elim (h2 k b) (hT b)) (fun j hj b hb => ?_) hn.2 e
      rcases hb with hb | hb
      · exact h3 k j b (fun e => hnk j hj e.symm) hb
      · exact hd j (by simp [hj]) b hb
    · cases e
/-- some of the pieces, in a new order (the numbers are given from the last to the first) -/
theorem St.sel (h : St K w0 w Fs) (ks : List Nat) (hn : nodupB ks = true) (e : pickP Fs ks [] = some Fs') : St K w0 w Fs' := by
  obtain ⟨T, hs, hT⟩ := h.sep
  obtain ⟨S, h1, h2, h3⟩ := hs.fam
  obtain ⟨T', h4, h5⟩ := Sep.pick h1 h2 h3 (acc := []) (Ta := fun _ => False) (fun _ x => x) (fun _ x => x.elim) (fun _ _ _ x => x.elim) hn e
  exact ⟨h.upd, T', h4, fun b hb => hT b (h5 b hb)⟩

/-! ### loops and cuts -/
theorem GC.loopK {γ : Type} (ts ks : List Nat) (I : γ → List (Nat × Value) → List (Nat × Value)) (H : γ → List Pc → List Pc) (Φ : γ → Prop) (m : γ → Nat) (g0 : γ) (hk : restr L ts [] = some Lk) (hi : pickP Fs ks [] = some Fk)
    (h0 : Φ g0) (hL : Sub L (I g0 Lk)) (hF : ∀ w, St X.K X.w0 w Fs → St X.K X.w0 w (H g0 Fk))
    (round : ∀ g, Φ g → GC X c (Exit.then (Round X (fun g => I g Lk) (fun g => H g Fk) Φ m (m g)) Q) (I g Lk) (H g Fk)) : GC X (.loop c) Q L Fs :=
  GC.loop (fun g => I g Lk) (fun g => H g Fk) Φ m g0 h0 hL hF round
def Cuts (X : Cx) {γ : Type} (I : γ → List (Nat × Value)) (H : γ → List Pc) (Φ : γ → Prop) (a : Act) (w : World) : Prop := ∃ g, Φ g ∧ St X.K X.w0 w (H g) ∧ Fr X.n (I g) a
theorem GC.cutq {γ : Type} (ts ks : List Nat) (I : γ → List (Nat × Value) → List (Nat × Value)) (H : γ → List Pc → List Pc) (Φ : γ → Prop) (hk : restr L ts [] = some Lk) (hi : pickP Fs ks [] = some Fk)
    (h1 : GC X c (Exit.then (Cuts X (fun g => I g Lk) (fun g => H g Fk) Φ) Q) L Fs) (h2 : ∀ g, Φ g → GX X .normal Q (I g Lk) (H g Fk)) : GC X c Q L Fs := fun w a hs hf =>
  wp_mono (h1 w a hs hf) fun e a' w' hq => by
    cases e with
    | normal => obtain ⟨g, hΦ, hs', hf'⟩ := hq; exact h2 g hΦ w' a' hs' hf'
    | _ => exact hq
theorem GX.cutq {γ : Type} {I : γ → List (Nat × Value)} {H : γ → List Pc} {Φ : γ → Prop} (g : γ) (hΦ : Φ g) (hL : Sub L (I g)) (hF : ∀ w, St X.K X.w0 w Fs → St X.K X.w0 w (H g)) : GX X .normal (Exit.then (Cuts X I H Φ) Q) L Fs := fun w a hs hf => ⟨g, hΦ, hF w hs, hL _ _ hf⟩
theorem GD.st {k fuel : Nat} {listed : Array Bool} (e : ∀ w, St X.K X.w0 w Fs → St X.K X.w0 w Fs') (h : GD X ops Q k Kp fuel listed L Fs') : GD X ops Q k Kp fuel listed L Fs := fun w a hs hf hΦ => h w a (e w hs) hf hΦ
theorem GX.wk {e : Exit} (k : Sub L L') (h : GX X e Q L' Fs) : GX X e Q L Fs := fun w a hs hf => h w a hs (k _ _ hf)
theorem GC.fact {p : Prop} (hp : ∀ w, Hd X.K X.w0 w Fs → p) (h : p → GC X c Q L Fs) : GC X c Q L Fs := fun w a hs hf => h (hp w hs.hd) w a hs hf
theorem GL.fact {p : Prop} (hp : ∀ w, Hd X.K X.w0 w Fs → p) (h : p → GL X ops rest Q L Fs) : GL X ops rest Q L Fs := fun w a hs hf => h (hp w hs.hd) w a hs hf
theorem GD.fact {p : Prop} {k fuel : Nat} {listed : Array Bool} (hp : ∀ w, Hd X.K X.w0 w Fs → p) (h : p → GD X ops Q k Kp fuel listed L Fs) : GD X ops Q k Kp fuel listed L Fs := fun w a hs hf hΦ => h (hp w hs.hd) w a hs hf hΦ
theorem GL.rowForm {k n' E sz cc : Nat} {A : Option Addr} {xs : List Value} (e : Fs[k]? = some (Pc.row A cc E sz n' xs))
    (h : xs.length = n' * sz → n' ≤ cc → ((A = none ∧ n' = 0 ∧ cc = 0) ∨ ∃ b, A = some ⟨b, 0, none⟩) → GL X ops rest Q L Fs) : GL X ops rest Q L Fs := fun w a hs hf => by
  obtain ⟨h1, h2, h3⟩ := row_form hs.hd e
  exact h h1 h2 h3 w a hs hf

theorem GD.eachN2 {k fuel i j : Nat} {listed : Array Bool} {di : Option Tmp} {opi : Op} {tyi : TypeId} {posi : String} {afi : Array Edge} {dj : Option Tmp} {opj : Op} {tyj : TypeId} {posj : String} {afj : Array Edge} (hr : Region.ready .any ops listed = [i, j]) (hi : ops[i]? = some ⟨di, opi, tyi, posi, afi, none⟩) (hj : ops[j]? = some ⟨dj, opj, tyj, posj, afj, none⟩)
    (oi : OT X ⟨di, opi, tyi, posi, afi, none⟩ L Fs (fun L' Fs' => ((listed.setIfInBounds i true).getD k false = true ∨ ∀ w, Hd X.K X.w0 w Fs' → Hd X.K X.w0 w Kp) ∧ GD X ops Q k Kp fuel (listed.setIfInBounds i true) L' Fs')) (oj : OT X ⟨dj, opj, tyj, posj, afj, none⟩ L Fs (fun L' Fs' => ((listed.setIfInBounds j true).getD k false = true ∨ ∀ w, Hd X.K X.w0 w Fs' → Hd X.K X.w0 w Kp) ∧ GD X ops Q k Kp fuel (listed.setIfInBounds j true) L' Fs')) : GD X ops Q k Kp (fuel + 1) listed L Fs :=
  GD.each hr (by simp) fun z hz => by
    simp only [List.mem_cons, List.not_mem_nil, or_false] at hz
    rcases hz with rfl | rfl
    · exact ⟨_, _, _, _, _, hi, oi⟩
    · exact ⟨_, _, _, _, _, hj, oj⟩
theorem GD.eachN3 {k fuel i j l : Nat} {listed : Array Bool} {di : Option Tmp} {opi : Op} {tyi : TypeId} {posi : String} {afi : Array Edge} {dj : Option Tmp} {opj : Op} {tyj : TypeId} {posj : String} {afj : Array Edge} {dl : Option Tmp} {opl : Op} {tyl : TypeId} {posl : String} {afl : Array Edge} (hr : Region.ready .any ops listed = [i, j, l]) (hi : ops[i]? = some ⟨di, opi, tyi, posi, afi, none⟩) (hj : ops[j]? = some ⟨dj, opj, tyj, posj, afj, none⟩) (hl : ops[l]? = some ⟨dl, opl, tyl, posl, afl, none⟩)
    (oi : OT X ⟨di, opi, tyi, posi, afi, none⟩ L Fs (fun L' Fs' => ((listed.setIfInBounds i true).getD k false = true ∨ ∀ w, Hd X.K X.w0 w Fs' → Hd X.K X.w0 w Kp) ∧ GD X ops Q k Kp fuel (listed.setIfInBounds i true) L' Fs')) (oj : OT X ⟨dj, opj, tyj, posj, afj, none⟩ L Fs (fun L' Fs' => ((listed.setIfInBounds j true).getD k false = true ∨ ∀ w, Hd X.K X.w0 w Fs' → Hd X.K X.w0 w Kp) ∧ GD X ops Q k Kp fuel (listed.setIfInBounds j true) L' Fs')) (ol : OT X ⟨dl, opl, tyl, posl, afl, none⟩ L Fs (fun L' Fs' => ((listed.setIfInBounds l true).getD k false = true ∨ ∀ w, Hd X.K X.w0 w Fs' → Hd X.K X.w0 w Kp) ∧ GD X ops Q k Kp fuel (listed.setIfInBounds l true) L' Fs')) : GD X ops Q k Kp (fuel + 1) listed L Fs :=
  GD.each hr (by simp) fun z hz => by
    simp only [List.mem_cons, List.not_mem_nil, or_false] at hz
    rcases hz with rfl | rfl | rfl
    · exact ⟨_, _, _, _, _, hi, oi⟩
    · exact ⟨_, _, _, _, _, hj, oj⟩
    · exact ⟨_, _, _, _, _, hl, ol⟩
theorem GD.eachN4 {k fuel i j l m : Nat} {listed : Array Bool} {di : Option Tmp} {opi : Op} {tyi : TypeId} {posi : String} {afi : Array Edge} {dj : Option Tmp} {opj : Op} {tyj : TypeId} {posj : String} {afj : Array Edge} {dl : Option Tmp} {opl : Op} {tyl : TypeId} {posl : String} {afl : Array Edge} {dm : Option Tmp} {opm : Op} {tym : TypeId} {posm : String} {afm : Array Edge} (hr : Region.ready .any ops listed = [i, j, l, m]) (hi : ops[i]? = some ⟨di, opi, tyi, posi, afi, none⟩) (hj : ops[j]? = some ⟨dj, opj, tyj, posj, afj, none⟩) (hl : ops[l]? = some ⟨dl, opl, tyl, posl, afl, none⟩) (hm : ops[m]? = some ⟨dm, opm, tym, posm, afm, none⟩)
    (oi : OT X ⟨di, opi, tyi, posi, afi, none⟩ L Fs (fun L' Fs' => ((listed.setIfInBounds i true).getD k false = true ∨ ∀ w, Hd X.K X.w0 w Fs' → Hd X.K X.w0 w Kp) ∧ GD X ops Q k Kp fuel (listed.setIfInBounds i true) L' Fs')) (oj : OT X ⟨dj, opj, tyj, posj, afj, none⟩ L Fs (fun L' Fs' => ((listed.setIfInBounds j true).getD k false = true ∨ ∀ w, Hd X.K X.w0 w Fs' → Hd X.K X.w0 w Kp) ∧ GD X ops Q k Kp fuel (listed.setIfInBounds j true) L' Fs')) (ol : OT X ⟨dl, opl, tyl, posl, afl, none⟩ L Fs (fun L' Fs' => ((listed.setIfInBounds l true).getD k false = true ∨ ∀ w, Hd X.K X.w0 w Fs' → Hd X.K X.w0 w Kp) ∧ GD X ops Q k Kp fuel (listed.setIfInBounds l true) L' Fs')) (om : OT X ⟨dm, opm, tym, posm, afm, none⟩ L Fs (fun L' Fs' => ((listed.setIfInBounds m true).getD k false = true ∨ ∀ w, Hd X.K X.w0 w Fs' → Hd X.K X.w0 w Kp) ∧ GD X ops Q k Kp fuel (listed.setIfInBounds m true) L' Fs')) : GD X ops Q k Kp (fuel + 1) listed L Fs :=
  GD.each hr (by simp) fun z hz => by
    simp only [List.mem_cons, List.not_mem_nil, or_false] at hz
    rcases hz with rfl | rfl | rfl | rfl
    · exact ⟨_, _, _, _, _, hi, oi⟩
    · exact ⟨_, _, _, _, _, hj, oj⟩
    · exact ⟨_, _, _, _, _, hl, ol⟩
    · exact ⟨_, _, _, _, _, hm, om⟩
theorem GD.eachN5 {k fuel i j l m p : Nat} {listed : Array Bool} {di : Option Tmp} {opi : Op} {tyi : TypeId} {posi : String} {afi : Array Edge} {dj : Option Tmp} {opj : Op} {tyj : TypeId} {posj : String} {afj : Array Edge} {dl : Option Tmp} {opl : Op} {tyl : TypeId} {posl : String} {afl : Array Edge} {dm : Option Tmp} {opm : Op} {tym : TypeId} {posm : String} {afm : Array Edge} {dp : Option Tmp} {opp : Op} {typ : TypeId} {posp : String} {afp : Array Edge} (hr : Region.ready .any ops listed = [i, j, l, m, p]) (hi : ops[i]? = some ⟨di, opi, tyi, posi, afi, none⟩) (hj : ops[j]? = some ⟨dj, opj, tyj, posj, afj, none⟩) (hl : ops[l]? = some ⟨dl, opl, tyl, posl, afl, none⟩) (hm : ops[m]? = some ⟨dm, opm, tym, posm, afm, none⟩) (hp : ops[p]? = some ⟨dp, opp, typ, posp, afp, none⟩)
    (oi : OT X ⟨di, opi, tyi, posi, afi, none⟩ L Fs (fun L' Fs' => ((listed.setIfInBounds i true).getD k false = true ∨ ∀ w, Hd X.K X.w0 w Fs' → Hd X.K X.w0 w Kp) ∧ GD X ops Q k Kp fuel (listed.setIfInBounds i true) L' Fs')) (oj : OT X ⟨dj, opj, tyj, posj, afj, none⟩ L Fs (fun L' Fs' => ((listed.setIfInBounds j true).getD k false = true ∨ ∀ w, Hd X.K X.w0 w Fs' → Hd X.K X.w0 w Kp) ∧ GD X ops Q k Kp fuel (listed.setIfInBounds j true) L' Fs')) (ol : OT X ⟨dl, opl, tyl, posl, afl, none⟩ L Fs (fun L' Fs' => ((listed.setIfInBounds l true).getD k false = true ∨ ∀ w, Hd X.K X.w0 w Fs' → Hd X.K X.w0 w Kp) ∧ GD X ops Q k Kp fuel (listed.setIfInBounds l true) L' Fs')) (om : OT X ⟨dm, opm, tym, posm, afm, none⟩ L Fs (fun L' Fs' => ((listed.setIfInBounds m true).getD k false = true ∨ ∀ w, Hd X.K X.w0 w Fs' → Hd X.K X.w0 w Kp) ∧ GD X ops Q k Kp fuel (listed.setIfInBounds m true) L' Fs')) (op : OT X ⟨dp, opp, typ, posp, afp, none⟩ L Fs (fun L' Fs' => ((listed.setIfInBounds p true).getD k false = true ∨ ∀ w, Hd X.K X.w0 w Fs' → Hd X.K X.w0 w Kp) ∧ GD X ops Q k Kp fuel (listed.setIfInBounds p true) L' Fs')) : GD X ops Q k Kp (fuel + 1) listed L Fs :=
  GD.each hr (by simp) fun z hz => by
    simp only [List.mem_cons, List.not_mem_nil, or_false] at hz
    rcases hz with rfl | rfl | rfl | rfl | rfl
    · exact ⟨_, _, _, _, _, hi, oi⟩
    · exact ⟨_, _, _, _, _, hj, oj⟩
    · exact ⟨_, _, _, _, _, hl, ol⟩
    · exact ⟨_, _, _, _, _, hm, om⟩
    · exact ⟨_, _, _, _, _, hp, op⟩

/-! ### groups of pieces that grow -/
theorem Sep.one {F : Pc} {S : Nat → Prop} (h : F.A S w) : Sep [F] S w := ⟨S, fun _ => False, h, fun _ x => x, fun _ _ x => x, fun b => by simp⟩
theorem St.grpNil (h : St K w0 w Fs) : St K w0 w (Bz.grp [] :: Fs) := St.grp (Gs := []) (by simpa using h)
theorem St.grpSnoc {F : Pc} {Gs : List Pc} (h : St K w0 w (F :: Bz.grp Gs :: Fs)) : St K w0 w (Bz.grp (Gs ++ [F]) :: Fs) := by
  have h1 := h.pull (k := 1) (F := Bz.grp Gs) rfl
  have h2 : St K w0 w (Gs ++ (F :: Fs)) := h1.ungrp
  exact St.grp (by rw [List.append_assoc]; exact h2)
theorem St.grpHead {F : Pc} {Gs : List Pc} (h : St K w0 w (Bz.grp (F :: Gs) :: Fs)) : St K w0 w (F :: Bz.grp Gs :: Fs) := by
  obtain ⟨T, ⟨S, T', ⟨S1, T1, hA, hs1, hd1, hT1⟩, hs, hd, hT⟩, hTb⟩ := h.sep
  refine ⟨h.upd, T, ⟨S1, fun b => T1 b ∨ T' b, hA, ⟨T1, T', hs1, hs, fun b h1 h2 => hd b ((hT1 b).2 (.inr h1)) h2, fun b => Iff.rfl⟩, fun b h1 h2 => ?_, fun b => ?_⟩, hTb⟩
  · rcases h2 with h2 | h2
    · exact hd1 b h1 h2
    · exact hd b ((hT1 b).2 (.inl h1)) h2
  · rw [hT b, hT1 b, or_assoc]
theorem Sep.mem : ∀ {Gs : List Pc} {T : Nat → Prop} {F : Pc}, Sep Gs T w → F ∈ Gs → ∃ S, F.A S w ∧ ∀ b, S b → T b
  | G :: Gs, T, F, ⟨S, T', hA, hs, hd, hT⟩, hF => by
    rcases List.mem_cons.1 hF with rfl | hF
    · exact ⟨S, hA, fun b hb => (hT b).2 (.inl hb)⟩
    · obtain ⟨S', h1, h2⟩ := Sep.mem hs hF
      exact ⟨S', h1, fun b hb => (hT b).2 (.inr (h2 b hb))⟩
theorem row_slr {S : Nat → Prop} {A : Option Addr} {c E sz n' : Nat} {xs : List Value} (hA : (Pc.row A c E sz n' xs).A S w) : SlR w A xs := by
  rcases hA.2.2 with ⟨h1, h2⟩ | ⟨b, cap, cur, h1, _⟩
  · subst h2; exact .inl (List.eq_nil_of_length_eq_zero (by simpa using hA.2.1))
  · simp only [Value.slice.injEq] at h1
    obtain ⟨rfl, _, _⟩ := h1
    refine .inr ⟨b, 0, rfl, fun j u hj => ?_⟩
    have := hA.2.cells (g := b) rfl j u hj
    rwa [addr_add] at this
theorem Hd.grpRow {k n' E sz c : Nat} {A : Option Addr} {xs : List Value} {Gs : List Pc} (h : Hd K w0 w Fs) (e : Fs[k]? = some (Bz.grp Gs)) (hm : Pc.row A c E sz n' xs ∈ Gs) : SlR w A xs := by
  obtain ⟨S, hA⟩ := h.all _ _ e
  obtain ⟨S', h1, _⟩ := Sep.mem (w := w) hA hm
  exact row_slr h1

/-! ### indexes that are not known -/
theorem rv_elemJ {t b o len cap sz q : Nat} {kk : IntKind} {iv : Int} (j : Nat) (hz : elemSz P t = some sz) (e : ev L x = some (.slice (some ⟨b, o, none⟩) len cap)) (ei : ev L i = some (.int kk iv)) (hj : iv = (j : Int)) (hm : j < len) (hq : o + j * sz = q) :
    RV P K w0 n L Fs (.indexAddr t x i) ty (.pointer (some ⟨b, q, none⟩)) := by
  subst hj hq
  exact rv_elem hz e ei (by omega) (by omega)
theorem rv_elemAJ {t b o m sz q : Nat} {kk : IntKind} {iv : Int} (j : Nat) (hz : arrSz P t = some (m, sz)) (e : ev L x = some (.pointer (some ⟨b, o, none⟩))) (ei : ev L i = some (.int kk iv)) (hj : iv = (j : Int)) (hm : j < m) (hq : o + j * sz = q) :
    RV P K w0 n L Fs (.indexAddr t x i) ty (.pointer (some ⟨b, q, none⟩)) := by
  subst hj hq
  exact rv_elemA hz e ei (by omega) (by omega)
/-- a store into a block, wherever -/
theorem ot_storeP {k b o T E : Nat} {v : Value} {cs vs cs' : List Value} (ex : ev L x = some (.pointer (some ⟨b, o, none⟩))) (ey : ev L y = some v)
    (hk : Fs[k]? = some (Pc.cl b cs E)) (hv : v.cells = vs.toArray) (hz : (X.P.info? T).map (·.size) = some vs.length) (h1 : vs.all Value.oneCell' = true) (hl : o + vs.length ≤ cs.length) (hcs : repl cs o vs = cs')
    (h : C L (Fs.set k (Pc.cl b cs' E))) : OT X ⟨none, .store T x y, ty, pos, af, g⟩ L Fs C :=
  ot_store ex ey hk hv hz h1 (Nat.ble_eq_true_of_le hl) hcs h
/-- one cell -/
theorem ot_store1 {k b o T E : Nat} {v : Value} {cs cs' : List Value} (ex : ev L x = some (.pointer (some ⟨b, o, none⟩))) (ey : ev L y = some v)
    (hk : Fs[k]? = some (Pc.cl b cs E)) (hv : v.cells = #[v]) (hz : (X.P.info? T).map (·.size) = some 1) (h1 : Value.oneCell' v = true) (hl : o < cs.length) (hcs : cs.set o v = cs')
    (h : C L (Fs.set k (Pc.cl b cs' E))) : OT X ⟨none, .store T x y, ty, pos, af, g⟩ L Fs C :=
  ot_storeP (vs := [v]) ex ey hk hv hz (by simp [h1]) (by simp; omega) hcs h
/-- a store into a row of one's own -/
theorem ot_storeRow {k b o T E sz n' cap : Nat} {v : Value} {xs xs' : List Value} (ex : ev L x = some (.pointer (some ⟨b, o, none⟩))) (ey : ev L y = some v)
    (hk : Fs[k]? = some (Pc.row (some ⟨b, 0, none⟩) cap E sz n' xs)) (hv : v.cells = #[v]) (hz : (X.P.info? T).map (·.size) = some 1) (h1 : Value.oneCell' v = true) (hl : o < xs.length) (hcs : xs.set o v = xs')
    (h : C L (Fs.set k (Pc.row (some ⟨b, 0, none⟩) cap E sz n' xs'))) : OT X ⟨none, .store T x y, ty, pos, af, g⟩ L Fs C :=
  ot_eff0 (fun w a hs hf => by
    obtain ⟨w', hr, hs'⟩ := row_store (P := X.P) (o := o) (vs := [v]) hs hk (by simp [h1]) (by simp; omega)
    have e : xs.take o ++ [v] ++ xs.drop (o + [v].length) = xs' := by
      rw [← hcs, List.set_eq_take_append_cons_drop, if_pos hl]; simp
    rw [e] at hs'
    refine ⟨w', ?_, hs'⟩
    obtain ⟨inf, hi, hh⟩ := Option.map_eq_some_iff.1 hz
    simp only [execOp, hf.ev ex, hf.ev ey, Instr.storeAt, Instr.sureAddr, Sem.run_bind, Sem.run_pure, Result.andThen_ok]
    unfold storeVar
    rw [Sem.run_bind, run_sizeOf hi]
    simp only [Result.andThen_ok, hv, hh, List.size_toArray, ne_eq, not_true_eq_false, if_false]
    simp [hr, Sem.run_bind, Sem.run_pure, Result.andThen_ok]) h
/-- append, the sums under names -/
theorem ot_appendR {d k t E sz by_ nn m c c0 r : Nat} {A A0 : Option Addr} {xs news ys : List Value}
    (hE : elemInfo X.P t = some (E, sz, by_)) (ex : ev L x = some (.slice A0 nn c0)) (ey : ev L y = some (.slice A m c)) (hk : Fs[k]? = some (Pc.row A0 c0 E sz nn xs))
    (hnews : ∀ w, Hd X.K X.w0 w Fs → SlR w A news) (hl : news.length = m * sz) (h1 : news.all Value.oneCell' = true) (hb : (nn + m) * by_ ≤ 140737488355328) (hby : 0 < by_) (hsz : 0 < sz)
    (hd : Nat.ble (d + 1) X.n = true) (hr : nn + m = r) (hys : xs ++ news = ys)
    (h : ∀ A' c', C ((d, .slice A' r c') :: L) (Fs.set k (Pc.row A' c' E sz r ys))) :
    OT X ⟨some d, .call { callee := .builtin .append, args := #[x, y], argTypes := #[t, t] }, ty, pos, af, g⟩ L Fs C := by
  subst hr hys
  refine ot_append hE ex ey hk hl (fun w hw => (hnews w hw).imp (fun e => ?_) fun ⟨b, o, e1, e2⟩ => ⟨b, o, e1, e2⟩) h1 hb hby hd fun A' c' _ => h A' c'
  subst e
  rcases Nat.mul_eq_zero.1 (by simpa using hl.symm : m * sz = 0) with h | h
  · exact h
  · omega
/-- the slice of an array -/
theorem rv_slA {t b o m E sz : Nat} {lo hi : Option Operand} {zl zh : Option Int} (hz : arrSz P t = some (m, sz)) (e : ev L x = some (.pointer (some ⟨b, o, none⟩))) (el : optI L lo = some zl) (eh : optI L hi = some zh)
    (l h q : Nat) (hl : zl.getD 0 = l) (hh : zh.getD m = h) (h1 : l ≤ h) (h2 : h ≤ m) (h3 : l < m ∨ (l = 0)) (hq : o + l * sz = q) :
    RV P K w0 n L Fs (.slice t x lo hi none) ty (.slice (some ⟨b, q, none⟩) (h - l) (m - l)) := fun w a hs hf d pos af g => by
  unfold arrSz at hz
  split at hz <;> try contradiction
  rename_i m' E hu
  obtain ⟨inf, hi', hh'⟩ := Option.map_eq_some_iff.1 hz
  simp only [Prod.mk.injEq] at hh'
  obtain ⟨rfl, rfl⟩ := hh'
  have e1 := optI_map hf el
  have e2 := optI_map hf eh
  simp only [execOp, hf.ev e, e1, e2]
  have hb : (Instr.sliceBounds false m' m' (zl.map (.int .i64)) (zh.map (.int .i64)) none).run P w = .ok (l, h, m') w := by
    have b0 : ∀ (y q : Nat) (code : BoundsCode) (w : World), q ≤ y → (Instr.sliceBound (.int .i64 (q : Int)) y code).run P w = .ok q w := fun y q code w hq => by
      have := run_bound (P := P) (z := (q : Int)) (y := y) (code := code) (by omega) (by omega) w
      simpa using this
    have hh2 : zh = none ∧ h = m' ∨ zh = some (h : Int) := by
      cases zh with
      | none => exact .inl ⟨rfl, by simp at hh; omega⟩
      | some q => exact .inr (by simp at hh; rw [hh])
    have hl2 : zl = none ∧ l = 0 ∨ zl = some (l : Int) := by
      cases zl with
      | none => exact .inl ⟨rfl, by simp at hl; omega⟩
      | some q => exact .inr (by simp at hl; rw [hl])
    rcases hh2 with ⟨rfl, rfl⟩ | rfl <;> rcases hl2 with ⟨rfl, rfl⟩ | rfl <;>
      simp [Instr.sliceBounds, b0, h1, h2, Sem.run_bind, Sem.run_pure, Result.andThen_ok]
  have ha : (if m' = l then (⟨b, o, none⟩ : Addr) else (⟨b, o, none⟩ : Addr).add (l * inf.size)) = ⟨b, q, none⟩ := by
    subst hq
    split
    · rename_i e
      rcases h3 with h3 | h3
      · omega
      · subst h3; simp
    · rw [addr_add]
  simp only [Option.map_none, Instr.sliceAt, Sem.run_bind, run_underlying hu, Result.andThen_ok, Instr.sureAddr, hb, run_sizeOf hi', Sem.run_pure, ha]
/-- copy into a block of one's own -/
theorem ot_copy {d k b o t t2 E E' sz by_ dl dc sl sc m : Nat} {A : Option Addr} {cs us cs' : List Value} (hE : elemInfo X.P t = some (E, sz, by_)) (ex : ev L x = some (.slice (some ⟨b, o, none⟩) dl dc)) (ey : ev L y = some (.slice A sl sc))
    (hm : min sl dl = m) (hk : Fs[k]? = some (Pc.cl b cs E')) (hr : ∀ w, Hd X.K X.w0 w Fs → SlR w A us) (hul : us.length = m * sz) (h1 : us.all Value.oneCell' = true) (hl : o + us.length ≤ cs.length) (hcs : repl cs o us = cs') (hd : Nat.ble (d + 1) X.n = true)
    (h : C ((d, .int .i64 (m : Int)) :: L) (Fs.set k (Pc.cl b cs' E'))) : OT X ⟨some d, .call { callee := .builtin .copy, args := #[x, y], argTypes := #[t, t2] }, ty, pos, af, g⟩ L Fs C :=
  ot_eff (γ := Unit) (Φ := fun _ => True) (v := fun _ => .int .i64 (m : Int)) (H := fun _ => Fs.set k (Pc.cl b cs' E')) (fun w a hs hf => by
    obtain ⟨inf, z, hu, hi, hz, hsz, hby', hzs, hpos⟩ := elemInfo_spec hE
    obtain ⟨w', hrun, hb', hu', hsz'⟩ := run_storeCells_cl (P := X.P) us cs o 0 w (hs.hd.clAt hk) (by omega) (fun u hu => List.all_eq_true.1 h1 u hu)
    refine ⟨(), w', ?_, hs.upd1 hk fun S hA hb => ⟨S, ⟨hA.1, by rw [← hcs]; simpa using hb'⟩, hu'.mono fun q hq _ => (hA.1 q).2 hq, fun b hb => .inl hb⟩, trivial⟩
    have hfirst : (Builtin.firstCells sz m (.slice A sl sc)).run X.P w = .ok us.toArray w := by
      rcases hr w hs.hd with h0 | ⟨b', o', rfl, hcl⟩
      · subst h0
        have hm0 : m * sz = 0 := by simpa using hul.symm
        cases A <;> simp [Builtin.firstCells, hm0, loadCells, loadCellsFrom, go_sem]
      · have := run_loadCells_list (P := X.P) w ⟨b', o', none⟩ us (fun j v hv => by rw [addr_add]; exact hcl j v hv)
        rw [hul] at this
        simpa [Builtin.firstCells] using this
    have hcp : (Builtin.copy_ #[t, t2] ty #[.slice (some ⟨b, o, none⟩) dl dc, .slice A sl sc]).run X.P w = .ok (.int .i64 (m : Int)) w' := by
      have hm' : Nat.min sl dl = m := hm
      simp [Builtin.copy_, run_underlying hu, run_sizeOf hi, hsz, Builtin.lenOf, hm', hfirst, hrun, goInt, Sem.run_bind, Sem.run_pure, Result.andThen_ok]
    simp only [execOp, resolve, List.map_toArray, List.map_cons, List.map_nil, hf.ev ex, hf.ev ey, invoke, builtin, Sem.run_bind, Sem.run_pure, Result.andThen_ok, hcp]) hd fun _ _ => h
/-- an element of an array's value -/
theorem rv_index {t m E : Nat} {kk : IntKind} {iv : Int} {cs : List Value} {u : Value} (j : Nat) (hu : P.underlying t = some (.array m E)) (hz : (P.info? E).map (·.size) = some 1) (ha : aggB P E = some false) (e : ev L x = some (.agg cs.toArray)) (ei : ev L i = some (.int kk iv)) (hj : iv = (j : Int)) (hm : j < m) (hc : cs[j]? = some u) :
    RV P K w0 n L Fs (.index t x i) ty u := fun w a hs hf d pos af g => by
  subst hj
  obtain ⟨inf, hi, hh⟩ := Option.map_eq_some_iff.1 hz
  have hc' : cs.toArray[j]? = some u := by simpa using hc
  simp only [execOp, hf.ev e, hf.ev ei]
  simp [Instr.index, asIntOf, run_underlying hu, run_sizeOf hi, hh, part, run_isAgg ha, hc, hm, Sem.run_bind, Sem.run_pure, Result.andThen_ok]
/-- a slice of noughts -/
theorem ot_make {d t E by_ m : Nat} {xl xc : Operand} {z : Value} {zs : List Value} (hE : elemInfo X.P t = some (E, 1, by_)) (hz0 : zeroB X.P E = some z) (hzc : z.cells = #[z]) (el : ev L xl = some (.int .i64 (m : Int))) (ec : ev L xc = some (.int .i64 (m : Int))) (hm : m * by_ ≤ 1048576) (hm2 : m ≤ 1048576)
    (hzs : List.replicate m z = zs) (hd : Nat.ble (d + 1) X.n = true)
    (h : ∀ b, C ((d, .slice (some ⟨b, 0, none⟩) m m) :: L) (Pc.row (some ⟨b, 0, none⟩) m E 1 m zs :: Fs)) : OT X ⟨some d, .makeSlice t xl xc, ty, pos, af, g⟩ L Fs C :=
  ot_eff (γ := Nat) (Φ := fun _ => True) (v := fun b => .slice (some ⟨b, 0, none⟩) m m) (H := fun b => Pc.row (some ⟨b, 0, none⟩) m E 1 m zs :: Fs) (fun w a hs hf => by
    obtain ⟨inf, z', hu, hi, hz, hsz, hby', hzs', hpos⟩ := elemInfo_spec hE
    have hzz : z' = z := by
      unfold zeroB at hz0; rw [hi] at hz0; simp [hz] at hz0; exact hz0
    subst hzz hzs
    refine ⟨w.heap.size, w.alloc (.cells (List.replicate m z').toArray E), ?_, ?_, trivial⟩
    · have hwr : IntKind.i64.wrap (m : Int) = m := i64_small (by omega) (by omega)
      have hbm : ¬ ((inf.bytes : Int) * (m : Int) > 2 ^ 48) := by
        rw [hby']
        have h1 : ((by_ * m : Nat) : Int) ≤ 1048576 := by rw [Nat.mul_comm]; omega
        rw [Int.natCast_mul] at h1
        have h2 : (2 : Int) ^ 48 = 281474976710656 := by decide
        rw [h2]
        omega
      have hroom : ¬ (m * inf.bytes > roomBytes) := by
        rw [hby']; unfold roomBytes; omega
      have hcells : (Array.range m).map (z'.cells[· % z'.cells.size]!) = (List.replicate m z').toArray := by
        apply Array.ext
        · simp
        · intro i h1 h2
          simp [hzc, Nat.mod_one]
      have hzr := run_zero (P := X.P) hz0 w
      simp only [execOp, hf.ev el, hf.ev ec]
      have hrow : ∀ (cells : Array Value) (w : World), (newRow E cells).run X.P w = .ok ⟨w.heap.size, 0, none⟩ (w.alloc (.cells cells E)) := fun _ _ => rfl
      have hwr0 : IntKind.i64.wrap 0 = 0 := by decide
      have hnl : ¬ ((m : Int) < 0) := by omega
      have hbm' : ¬ (281474976710656 < (inf.bytes : Int) * (m : Int)) := by
        have h2 : (2 : Int) ^ 48 = 281474976710656 := by decide
        rw [h2] at hbm; omega
      by_cases h0 : m = 0
      · subst h0
        simp [Instr.makeSlice, run_underlying hu, asInt, asIntOf, typeInfo, hi, hwr0, run_sizeOf hi, hsz, askRoom, hroom, hrow, go_sem]
      · simp [Instr.makeSlice, run_underlying hu, asInt, asIntOf, typeInfo, hi, hwr, hbm', hnl, run_sizeOf hi, hsz, askRoom, hroom, h0, hzr, hrow, hcells, go_sem]
        exact congrArg (fun q => w.alloc (.cells q E)) (hcells.trans (by simp))
    · have h1 := hs.alloc (List.replicate m z') E
      exact h1.clRow (k := 0) (n' := m) (sz := 1) rfl (by simp) (by omega)) hd fun b _ => h b
end Go.Bz
