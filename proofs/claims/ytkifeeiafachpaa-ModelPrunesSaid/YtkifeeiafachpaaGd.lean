/- Guarded operations, in order and drawn; a cut behind a region. Nothing of the program stands here. -/
import Derived.Test.YtkifeeiafachpaaRo
set_option linter.unusedVariables false
set_option linter.unusedSimpArgs false
namespace Go.Bz
open Go Go.RowKit

variable {X : Cx} {ops : Array Oper} {rest : List Oper} {Q Q' : Exit → Act → World → Prop} {L L' : List (Nat × Value)} {Fs Fs' Kp : List Pc} {c : Code} {k fuel : Nat} {listed : Array Bool}

theorem rv_to {P : Program} {K : Nat → Prop} {w0 : World} {n : Nat} {op : Op} {ty : TypeId} {v v' : Value} (h : RV P K w0 n L Fs op ty v) (e : v = v') : RV P K w0 n L Fs op ty v' := e ▸ h
theorem evb {x : Operand} {b : Bool} {v u : Value} (e : ev L x = some (bif b then v else u)) (hb : b = true) : ev L x = some v := by rw [e, hb]; rfl

section
variable {P : Program} {K : Nat → Prop} {w0 : World} {n : Nat} {ty : TypeId} {c x y : Operand}
theorem rv_andT {r : Bool} (ec : ev L c = some (.bool true)) (ex : ev L x = some (.bool r)) (ey : ev L y = some (.bool false)) : RV P K w0 n L Fs (.pick c x y) ty (.bool r) := rv_pick (b := true) ec ex ey
theorem rv_andF {u : Value} (ec : ev L c = some (.bool false)) (ex : ev L x = some u) (ey : ev L y = some (.bool false)) : RV P K w0 n L Fs (.pick c x y) ty (.bool false) := rv_pick (b := false) ec ex ey
theorem rv_orT {u : Value} (ec : ev L c = some (.bool true)) (ex : ev L x = some (.bool true)) (ey : ev L y = some u) : RV P K w0 n L Fs (.pick c x y) ty (.bool true) := rv_pick (b := true) ec ex ey
theorem rv_orF {r : Bool} (ec : ev L c = some (.bool false)) (ex : ev L x = some (.bool true)) (ey : ev L y = some (.bool r)) : RV P K w0 n L Fs (.pick c x y) ty (.bool r) := rv_pick (b := false) ec ex ey
end
/-- a guarded operation that is done -/
theorem GL.stepG {d : Option Tmp} {op : Op} {ty : TypeId} {pos : String} {af : Array Edge} {gd : Option (Nat × Bool)} (hg : gval ops L gd = some true) (h : OT X ⟨d, op, ty, pos, af, gd⟩ L Fs (fun L' Fs' => GL X ops rest Q L' Fs')) :
    GL X ops (⟨d, op, ty, pos, af, gd⟩ :: rest) Q L Fs := fun w a hs hf => by
  have hw := wanted_gval (o := ⟨d, op, ty, pos, af, gd⟩) hf hg
  refine wpList_step fun N hN => ?_
  rw [hw, if_pos rfl]
  exact h w a hs hf _ _ fun L' Fs' hC w' a' hs' hf' => hN _ _ (hC w' a' hs' hf')
theorem GL.valT {d : Nat} {op : Op} {v : Value} {ty : TypeId} {pos : String} {af : Array Edge} {gd : Option (Nat × Bool)} (hg : gval ops L gd = some true) (hv : RV X.P X.K X.w0 X.n L Fs op ty v) (hd : Nat.ble (d + 1) X.n = true) (h : GL X ops rest Q ((d, v) :: L) Fs) :
    GL X ops (⟨some d, op, ty, pos, af, gd⟩ :: rest) Q L Fs := GL.stepG hg (ot_val hv hd h)
/-- a guarded operation that is left out -/
theorem GL.skipG {d : Nat} {op : Op} {ty : TypeId} {pos : String} {af : Array Edge} {gd : Option (Nat × Bool)} (hg : gval ops L gd = some false) (hd : Nat.ble (d + 1) X.n = true) (h : GL X ops rest Q ((d, undef) :: L) Fs) :
    GL X ops (⟨some d, op, ty, pos, af, gd⟩ :: rest) Q L Fs := fun w a hs hf => by
  have hw := wanted_gval (o := ⟨some d, op, ty, pos, af, gd⟩) hf hg
  refine wpList_step fun N hN => ?_
  rw [hw, if_neg (by simp)]
  exact hN _ _ (h w _ hs (hf.put (Nat.le_of_ble_eq_true hd) undef))

/-- a guard that is itself left out -/
def gskip (ops : Array Oper) (L : List (Nat × Value)) : Option (Nat × Bool) → Bool
  | none => false
  | some (j, _) => match (ops[j]?).bind (·.dst) with
    | some t => match lk L t with
      | some (.tuple _) => true
      | _ => false
    | none => false
theorem wanted_gskip {n : Nat} {a : Act} (hf : Fr n L a) {o : Oper} (h : gskip ops L o.guard = true) : Region.wanted o (yielded ops a.tmps) = false := by
  unfold gskip at h
  unfold Region.wanted
  split at h
  · cases h
  · rename_i j want hg
    rw [hg]
    split at h <;> try contradiction
    rename_i t ht
    split at h <;> try contradiction
    rename_i vs hvs
    have := hf.at_ t _ hvs
    show (yielded ops a.tmps j == some want) = _
    unfold yielded
    rw [ht, Option.bind_some]
    rw [Array.getD_eq_getD_getElem?] at this
    cases hh : a.tmps[t]? with
    | none => rfl
    | some u => rw [hh] at this; simp at this; rw [this]; rfl
theorem GL.skipU {d : Nat} {op : Op} {ty : TypeId} {pos : String} {af : Array Edge} {gd : Option (Nat × Bool)} (hg : gskip ops L gd = true) (hd : Nat.ble (d + 1) X.n = true) (h : GL X ops rest Q ((d, undef) :: L) Fs) :
    GL X ops (⟨some d, op, ty, pos, af, gd⟩ :: rest) Q L Fs := fun w a hs hf => by
  have hw := wanted_gskip (o := ⟨some d, op, ty, pos, af, gd⟩) hf hg
  refine wpList_step fun N hN => ?_
  rw [hw, if_neg (by simp)]
  exact hN _ _ (h w _ hs (hf.put (Nat.le_of_ble_eq_true hd) undef))

/-- the same for regions that draw -/
theorem GD.readG {i d : Nat} {op : Op} {ty : TypeId} {pos : String} {af : Array Edge} {gd : Option (Nat × Bool)} {v : Value} (hi : ops[i]? = some ⟨some d, op, ty, pos, af, gd⟩) (hg : gval ops L gd = some true) (hv : RV X.P X.K X.w0 X.n L Kp op ty v)
    (hc : (Region.noSelect ops && Region.free .any ops listed i && (Region.ready .any ops listed).contains i && !(listed.getD k false) && !(Nat.beq i k) && waits ops k i && Nat.ble (d + 1) X.n) = true) (hQ : noPanicPut Q)
    (h : GD X ops Q k Kp fuel (listed.setIfInBounds i true) ((d, v) :: L) Fs) : GD X ops Q k Kp (fuel + 1) listed L Fs := fun w a hs hf hΦ => by
  simp only [Bool.and_eq_true, Bool.not_eq_true'] at hc
  obtain ⟨⟨⟨⟨⟨⟨c1, c2⟩, c3⟩, c4⟩, c5⟩, c6⟩, c7⟩ := hc
  have hik : i ≠ k := fun e => by subst e; simp at c5
  have hΦw : Hd X.K X.w0 w Kp := hΦ.resolve_left (by rw [c4]; simp)
  refine wpAnyS_first (oi := ⟨some d, op, ty, pos, af, gd⟩) (v := v) hi (Region.noSelect_spec c1) (fun c a w => hQ c a _ v w) hik (waits_spec c6) fuel listed a w (Region.free_spec hi c2) (by simpa using c3) (.inl ⟨wanted_gval hf hg, fun w' hw' => hv w' a hw' hf _ _ _ _⟩) c4 hΦw ?_
  exact h w _ hs (hf.put (Nat.le_of_ble_eq_true c7) v) (.inr hΦw)
theorem GD.pureG {i d : Nat} {op : Op} {ty : TypeId} {pos : String} {af : Array Edge} {gd : Option (Nat × Bool)} {v : Value} (hi : ops[i]? = some ⟨some d, op, ty, pos, af, gd⟩) (hg : gval ops L gd = some true) (hv : ∀ K w0, RV X.P K w0 X.n L [] op ty v)
    (hc : (Region.noSelect ops && Region.free .any ops listed i && (Region.ready .any ops listed).contains i && !(Nat.beq i k) && Nat.ble (d + 1) X.n) = true) (hQ : noPanicPut Q)
    (h : GD X ops Q k Kp fuel (listed.setIfInBounds i true) ((d, v) :: L) Fs) : GD X ops Q k Kp (fuel + 1) listed L Fs := fun w a hs hf hΦ => by
  simp only [Bool.and_eq_true, Bool.not_eq_true'] at hc
  obtain ⟨⟨⟨⟨c1, c2⟩, c3⟩, c5⟩, c7⟩ := hc
  have hik : i ≠ k := fun e => by subst e; simp at c5
  refine wpAnyS_firstP (oi := ⟨some d, op, ty, pos, af, gd⟩) (v := v) hi (Region.noSelect_spec c1) (fun c a w => hQ c a _ v w) hik fuel listed a w (Region.free_spec hi c2) (by simpa using c3) (.inl ⟨wanted_gval hf hg, fun w' => hv noB w' w' a (.nil (.refl _ _)) hf _ _ _ _⟩) hΦ ?_
  exact h w _ hs (hf.put (Nat.le_of_ble_eq_true c7) v) (by rw [getD_set_ne false hik]; exact hΦ)
theorem GD.stepG {i : Nat} {d : Option Tmp} {op : Op} {ty : TypeId} {pos : String} {af : Array Edge} {gd : Option (Nat × Bool)} (hr : Region.ready .any ops listed = [i]) (hi : ops[i]? = some ⟨d, op, ty, pos, af, gd⟩) (hg : gval ops L gd = some true)
    (h : OT X ⟨d, op, ty, pos, af, gd⟩ L Fs (fun L' Fs' => ((listed.setIfInBounds i true).getD k false = true ∨ ∀ w, Hd X.K X.w0 w Fs' → Hd X.K X.w0 w Kp) ∧ GD X ops Q k Kp fuel (listed.setIfInBounds i true) L' Fs')) :
    GD X ops Q k Kp (fuel + 1) listed L Fs := fun w a hs hf hΦ => by
  refine ⟨fun e => by rw [hr] at e; simp at e, fun j hj => ?_⟩
  rw [hr] at hj
  simp only [List.mem_singleton] at hj
  subst hj
  unfold wpOp
  rw [hi]
  simp only [wanted_gval (o := ⟨d, op, ty, pos, af, gd⟩) hf hg, if_true]
  refine .inl (h w a hs hf _ _ fun L' Fs' hC w' a' hs' hf' => ?_)
  have hΦ' : (listed.setIfInBounds j true).getD k false = true ∨ Hd X.K X.w0 w' Kp := hC.1.imp id (fun x => x w' hs'.hd)
  exact ⟨hΦ', hC.2 w' a' hs' hf' hΦ'⟩

/-- a whole number's conversion -/
theorem rv_convI {P : Program} {K : Nat → Prop} {w0 : World} {n : Nat} {ty src dst : TypeId} {ks kd k : IntKind} {z : Int} {x : Operand} (hs : P.underlying src = some (.int ks)) (hd : P.underlying dst = some (.int kd)) (e : ev L x = some (.int k z)) :
    RV P K w0 n L Fs (.convert src dst x) ty (.int kd (kd.wrap z)) := fun w a hs' hf d pos af g => by
  simp only [execOp, hf.ev e]; simp [convert, run_underlying hs, run_underlying hd, Conv.intToInt, go_sem]

/-- what a cut behind a piece of code says -/
def Cut (X : Cx) (L : List (Nat × Value)) (Fs : List Pc) (e : Exit) (a : Act) (w : World) : Prop := e = .normal ∧ St X.K X.w0 w Fs ∧ Fr X.n L a
theorem GC.cutr (L' : List (Nat × Value)) (Fs' : List Pc) (h1 : GC X c (Cut X L' Fs') L Fs) (h2 : GX X .normal Q L' Fs') : GC X c Q L Fs := fun w a hs hf =>
  wp_mono (h1 w a hs hf) fun e a' w' ⟨he, hs', hf'⟩ => by subst he; exact h2 w' a' hs' hf'
theorem GX.cut (hL : Sub L L') (hF : ∀ w, St X.K X.w0 w Fs → St X.K X.w0 w Fs') : GX X .normal (Cut X L' Fs') L Fs := fun w a hs hf => ⟨rfl, hF w hs, hL _ _ hf⟩
def CutE (X : Cx) {γ : Type} (L : γ → List (Nat × Value)) (Fs : γ → List Pc) (e : Exit) (a : Act) (w : World) : Prop := e = .normal ∧ ∃ g, St X.K X.w0 w (Fs g) ∧ Fr X.n (L g) a
theorem GC.cutE {γ : Type} (L' : γ → List (Nat × Value)) (Fs' : γ → List Pc) (h1 : GC X c (CutE X L' Fs') L Fs) (h2 : ∀ g, GX X .normal Q (L' g) (Fs' g)) : GC X c Q L Fs := fun w a hs hf =>
  wp_mono (h1 w a hs hf) fun e a' w' ⟨he, g, hs', hf'⟩ => by subst he; exact h2 g w' a' hs' hf'
theorem GX.cutE {γ : Type} {L' : γ → List (Nat × Value)} {Fs' : γ → List Pc} (g : γ) (hL : Sub L (L' g)) (hF : ∀ w, St X.K X.w0 w Fs → St X.K X.w0 w (Fs' g)) : GX X .normal (CutE X L' Fs') L Fs := fun w a hs hf => ⟨rfl, g, hF w hs, hL _ _ hf⟩
theorem noPanicPut_cut {L : List (Nat × Value)} {Fs : List Pc} : noPanicPut (Cut X L Fs) := fun c a d v w h => by cases h.1
theorem noPanicPut_cutE {γ : Type} {L : γ → List (Nat × Value)} {Fs : γ → List Pc} : noPanicPut (CutE X L Fs) := fun c a d v w h => by cases h.1
end Go.Bz
