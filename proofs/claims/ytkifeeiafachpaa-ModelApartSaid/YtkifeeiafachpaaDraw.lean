/- Regions that draw their order: reads may be taken first while nobody has written; the rest in whatever order. Nothing of the program stands here. -/
import Derived.Test.YtkifeeiafachpaaEff
set_option linter.unusedVariables false
set_option linter.unusedSimpArgs false
namespace Go.Bz
open Go Go.RowKit

section
variable {P : Program} {ops : Array Oper} {Q : Exit → Act → World → Prop} {md : Region.Mode} {Φ : World → Prop} {k : Nat}

/-- 'Φ' holds as long as number k hasn't come up. -/
def wpAnyS (P : Program) (md : Region.Mode) (ops : Array Oper) (Q : Exit → Act → World → Prop) (k : Nat) (Φ : World → Prop) : Nat → Array Bool → Act → World → Prop
  | 0, listed, a, w => Region.ready md ops listed = [] ∧ Q .normal a w
  | fuel + 1, listed, a, w =>
    (Region.ready md ops listed = [] → Q .normal a w) ∧
    ∀ i ∈ Region.ready md ops listed, wpOp P ops Q i (fun a' w' => ((listed.setIfInBounds i true).getD k false = true ∨ Φ w') ∧ wpAnyS P md ops Q k Φ fuel (listed.setIfInBounds i true) a' w') a w
theorem wpAny_ofS : ∀ (fuel : Nat) (listed : Array Bool) (a : Act) (w : World), wpAnyS P md ops Q k Φ fuel listed a w → wpAny P md ops Q fuel listed a w
  | 0, _, _, _, h => h
  | fuel + 1, _, _, _, h => ⟨h.1, fun i hi => wpOp_mono (fun a' w' h' => wpAny_ofS fuel _ a' w' h'.2) (h.2 i hi)⟩

theorem ready_unlisted {i : Nat} {listed : Array Bool} (h : i ∈ Region.ready md ops listed) : listed.getD i true = false := (mem_ready.1 h).1

/-- A read may be taken first: number k, the first that writes, waits for it. -/
theorem wpAnyS_first {i : Nat} {oi : Oper} {v : Value} (hi : ops[i]? = some oi) (hsel : ∀ (j : Nat) (o : Oper) cs b, ops[j]? = some o → o.op ≠ .select cs b)
    (hQ : ∀ c a w, Q (.panic c) (a.put oi.dst v) w → Q (.panic c) a w) (hik : i ≠ k) (hkw : ∀ ok, ops[k]? = some ok → ∃ e ∈ ok.after, Region.binds md e = true ∧ e.on = i) :
    ∀ (fuel : Nat) (listed : Array Bool) (a : Act) (w : World),
      (∀ j oj, ops[j]? = some oj → j ≠ i → listed.getD j true = false → (∀ e ∈ oj.after, Region.binds md e = true → e.on ≠ i) → oi.apart ops oj = true) →
      i ∈ Region.ready md ops listed → YieldsIf P ops Φ oi v a → listed.getD k false = false → Φ w →
      wpAnyS P md ops Q k Φ fuel (listed.setIfInBounds i true) (a.put oi.dst v) w → wpAnyS P md ops Q k Φ (fuel + 1) listed a w := by
  intro fuel
  induction fuel with
  | zero =>
    intro listed a w _ hr hy hk hS H
    refine ⟨fun h => (by rw [h] at hr; cases hr), fun j hj => ?_⟩
    by_cases hji : j = i
    · subst hji; exact hy.wpOp hi hS ⟨.inr hS, H⟩
    · have := ready_mono hj hji
      rw [H.1] at this
      cases this
  | succ fuel ih =>
    intro listed a w hfree hr hy hk hS H
    refine ⟨fun h => (by rw [h] at hr; cases hr), fun j hj => ?_⟩
    by_cases hji : j = i
    · subst hji; exact hy.wpOp hi hS ⟨.inr hS, H⟩
    · have h1 := H.2 j (ready_mono hj hji)
      obtain ⟨hjun, oj, hoj, hall⟩ := mem_ready.1 hj
      have hnot : ∀ e ∈ oj.after, Region.binds md e = true → e.on ≠ i := fun e he hb heq => by
        have h1 := hall e he hb
        have h0 := (mem_ready.1 hr).1
        rw [heq] at h1
        rcases Nat.lt_or_ge i listed.size with h' | h'
        · simp [h'] at h0 h1; rw [h0] at h1; cases h1
        · simp [Array.getElem?_eq_none h'] at h1
      have hjk : j ≠ k := fun e => by
        subst e
        obtain ⟨e, he, hb, hon⟩ := hkw oj hoj
        exact hnot e he hb hon
      have hk' : (listed.setIfInBounds j true).getD k false = false := by rw [getD_set_ne false hjk]; exact hk
      have h2 := wpOp_putIf hoj (hfree j oj hoj hji hjun hnot) (fun cs b => hsel i oi cs b hi) (fun cs b => hsel j oj cs b hoj) hQ hy h1
      have hfree' : ∀ k ok, ops[k]? = some ok → k ≠ i → (listed.setIfInBounds j true).getD k true = false →
          (∀ e ∈ ok.after, Region.binds md e = true → e.on ≠ i) → oi.apart ops ok = true := fun k ok hk hki hun hno => by
        refine hfree k ok hk hki ?_ hno
        by_cases hjk : j = k
        · subst hjk; exact hjun
        · rw [getD_set_ne true hjk] at hun; exact hun
      refine wpOp_mono (fun a' w' h3 => ?_) h2
      have hΦ' : Φ w' := by
        rcases h3.2.1 with h | h
        · rw [getD_set_ne false hjk, getD_set_ne false hik] at h; rw [h] at hk; cases hk
        · exact h
      refine ⟨.inr hΦ', ih (listed.setIfInBounds j true) a' w' hfree' (ready_mono hr (Ne.symm hji)) h3.1 hk' hΦ' ?_⟩
      rw [Array.setIfInBounds_comm _ _ hji]
      exact h3.2.2

/-- What yields in whatever world may be taken first whenever it is ready. -/
theorem wpAnyS_firstP {i : Nat} {oi : Oper} {v : Value} (hi : ops[i]? = some oi) (hsel : ∀ (j : Nat) (o : Oper) cs b, ops[j]? = some o → o.op ≠ .select cs b)
    (hQ : ∀ c a w, Q (.panic c) (a.put oi.dst v) w → Q (.panic c) a w) (hik : i ≠ k) :
    ∀ (fuel : Nat) (listed : Array Bool) (a : Act) (w : World),
      (∀ j oj, ops[j]? = some oj → j ≠ i → listed.getD j true = false → (∀ e ∈ oj.after, Region.binds md e = true → e.on ≠ i) → oi.apart ops oj = true) →
      i ∈ Region.ready md ops listed → Yields P ops oi v a → (listed.getD k false = true ∨ Φ w) →
      wpAnyS P md ops Q k Φ fuel (listed.setIfInBounds i true) (a.put oi.dst v) w → wpAnyS P md ops Q k Φ (fuel + 1) listed a w := by
  have hset : ∀ (listed : Array Bool) (w : World), (listed.getD k false = true ∨ Φ w) → ((listed.setIfInBounds i true).getD k false = true ∨ Φ w) := fun l w h => by rw [getD_set_ne false hik]; exact h
  intro fuel
  induction fuel with
  | zero =>
    intro listed a w _ hr hy hS H
    refine ⟨fun h => (by rw [h] at hr; cases hr), fun j hj => ?_⟩
    by_cases hji : j = i
    · subst hji; exact hy.wpOp hi ⟨hset _ _ hS, H⟩
    · have := ready_mono hj hji
      rw [H.1] at this
      cases this
  | succ fuel ih =>
    intro listed a w hfree hr hy hS H
    refine ⟨fun h => (by rw [h] at hr; cases hr), fun j hj => ?_⟩
    by_cases hji : j = i
    · subst hji; exact hy.wpOp hi ⟨hset _ _ hS, H⟩
    · have h1 := H.2 j (ready_mono hj hji)
      obtain ⟨hjun, oj, hoj, hall⟩ := mem_ready.1 hj
      have hnot : ∀ e ∈ oj.after, Region.binds md e = true → e.on ≠ i := fun e he hb heq => by
        have h1 := hall e he hb
        have h0 := (mem_ready.1 hr).1
        rw [heq] at h1
        rcases Nat.lt_or_ge i listed.size with h' | h'
        · simp [h'] at h0 h1; rw [h0] at h1; cases h1
        · simp [Array.getElem?_eq_none h'] at h1
      have h2 := wpOp_put hoj (hfree j oj hoj hji hjun hnot) (fun cs b => hsel i oi cs b hi) (fun cs b => hsel j oj cs b hoj) hQ hy h1
      have hfree' : ∀ k ok, ops[k]? = some ok → k ≠ i → (listed.setIfInBounds j true).getD k true = false →
          (∀ e ∈ ok.after, Region.binds md e = true → e.on ≠ i) → oi.apart ops ok = true := fun k ok hk hki hun hno => by
        refine hfree k ok hk hki ?_ hno
        by_cases hjk : j = k
        · subst hjk; exact hjun
        · rw [getD_set_ne true hjk] at hun; exact hun
      refine wpOp_mono (fun a' w' h3 => ?_) h2
      have hS' : (listed.setIfInBounds j true).getD k false = true ∨ Φ w' := by
        refine h3.2.1.imp (fun h => ?_) id
        rwa [Array.setIfInBounds_comm _ _ (Ne.symm hji), getD_set_ne false hik] at h
      refine ⟨hS', ih (listed.setIfInBounds j true) a' w' hfree' (ready_mono hr (Ne.symm hji)) h3.1 hS' ?_⟩
      rw [Array.setIfInBounds_comm _ _ hji]
      exact h3.2.2
end

/-! ### The judgement -/
variable {X : Cx} {ops : Array Oper} {Q : Exit → Act → World → Prop} {L L' : List (Nat × Value)} {Fs Fs' Kp : List Pc} {k fuel : Nat} {listed : Array Bool}

/-- The region's list of what has come up; Kp: the pieces that nobody writes before number k. -/
def GD (X : Cx) (ops : Array Oper) (Q : Exit → Act → World → Prop) (k : Nat) (Kp : List Pc) (fuel : Nat) (listed : Array Bool) (L : List (Nat × Value)) (Fs : List Pc) : Prop :=
  ∀ w a, St X.K X.w0 w Fs → Fr X.n L a → (listed.getD k false = true ∨ Hd X.K X.w0 w Kp) → wpAnyS X.P .any ops Q k (fun w => Hd X.K X.w0 w Kp) fuel listed a w

/-- the pieces of some numbers -/
def pk (Fs : List Pc) (is : List Nat) : List Pc := is.filterMap (fun i => Fs[i]?)
theorem Hd.pk {K : Nat → Prop} {w0 w : World} {Fs : List Pc} (h : Hd K w0 w Fs) (is : List Nat) : Hd K w0 w (pk Fs is) := by
  refine ⟨h.upd, fun k F e => ?_⟩
  have hm : F ∈ Bz.pk Fs is := List.mem_of_getElem? e
  unfold Bz.pk at hm
  obtain ⟨i, _, hi⟩ := List.mem_filterMap.1 hm
  exact h.all i F hi
theorem GC.draw {id : Nat} {l : List Oper} (k : Nat) (is : List Nat) (hm : X.P.follows .mixedOrders = true)
    (h : GD X l.toArray Q k (pk Fs is) l.length (Array.replicate l.length false) L Fs) : GC X (.region id l.toArray true) Q L Fs := fun w a hs hf => by
  have hs' : St X.K X.w0 w.drew Fs := hs.grow (.drew w)
  have h1 := h w.drew a hs' hf (.inr (hs'.hd.pk is))
  have h2 := wpAny_ofS _ _ _ _ h1
  refine wp_region_any hm ?_
  simpa using h2

def noPanicPut (Q : Exit → Act → World → Prop) : Prop := ∀ (c : List PanicEntry) (a : Act) (d : Option Tmp) (v : Value) (w : World), Q (.panic c) (a.put d v) w → Q (.panic c) a w
theorem noPanicPut_body {P : Program} {fn : Func} {R : Ending → World → Prop} : noPanicPut (bodyPost P fn R) := fun c a d v w h => by
  cases d <;> exact h
theorem noPanicPut_then {N : Act → World → Prop} (h : noPanicPut Q) : noPanicPut (Exit.then N Q) := fun c a d v w => h c a d v w
theorem noPanicPut_blk {id : Nat} (h : noPanicPut Q) : noPanicPut (Exit.inBlock id Q) := fun c a d v w => h c a d v w

/-- number i's own edge stands at number k -/
def waits (ops : Array Oper) (k i : Nat) : Bool := match ops[k]? with
  | some ok => ok.after.any fun e => Region.binds .any e && e.on == i
  | none => true
theorem waits_spec {i : Nat} (h : waits ops k i = true) : ∀ ok, ops[k]? = some ok → ∃ e ∈ ok.after, Region.binds .any e = true ∧ e.on = i := fun ok hok => by
  unfold waits at h
  rw [hok] at h
  obtain ⟨e, he, h2⟩ := Array.any_eq_true'.1 h
  simp only [Bool.and_eq_true, beq_iff_eq] at h2
  exact ⟨e, he, h2.1, h2.2⟩

/-- A read, taken first. -/
theorem GD.read {i d : Nat} {op : Op} {ty : TypeId} {pos : String} {af : Array Edge} {v : Value} (hi : ops[i]? = some ⟨some d, op, ty, pos, af, none⟩) (hv : RV X.P X.K X.w0 X.n L Kp op ty v)
    (hc : (Region.noSelect ops && Region.free .any ops listed i && (Region.ready .any ops listed).contains i && !(listed.getD k false) && !(Nat.beq i k) && waits ops k i && Nat.ble (d + 1) X.n) = true) (hQ : noPanicPut Q)
    (h : GD X ops Q k Kp fuel (listed.setIfInBounds i true) ((d, v) :: L) Fs) : GD X ops Q k Kp (fuel + 1) listed L Fs := fun w a hs hf hΦ => by
  simp only [Bool.and_eq_true, Bool.not_eq_true'] at hc
  obtain ⟨⟨⟨⟨⟨⟨c1, c2⟩, c3⟩, c4⟩, c5⟩, c6⟩, c7⟩ := hc
  have hik : i ≠ k := fun e => by subst e; simp at c5
  have hΦw : Hd X.K X.w0 w Kp := hΦ.resolve_left (by rw [c4]; simp)
  refine wpAnyS_first (oi := ⟨some d, op, ty, pos, af, none⟩) (v := v) hi (Region.noSelect_spec c1) (fun c a w => hQ c a _ v w) hik (waits_spec c6) fuel listed a w (Region.free_spec hi c2) (by simpa using c3) (.inl ⟨rfl, fun w' hw' => hv w' a hw' hf _ _ _ _⟩) c4 hΦw ?_
  exact h w _ hs (hf.put (Nat.le_of_ble_eq_true c7) v) (.inr hΦw)
/-- What hangs on no memory, taken first. -/
theorem GD.pure {i d : Nat} {op : Op} {ty : TypeId} {pos : String} {af : Array Edge} {v : Value} (hi : ops[i]? = some ⟨some d, op, ty, pos, af, none⟩) (hv : ∀ K w0, RV X.P K w0 X.n L [] op ty v)
    (hc : (Region.noSelect ops && Region.free .any ops listed i && (Region.ready .any ops listed).contains i && !(Nat.beq i k) && Nat.ble (d + 1) X.n) = true) (hQ : noPanicPut Q)
    (h : GD X ops Q k Kp fuel (listed.setIfInBounds i true) ((d, v) :: L) Fs) : GD X ops Q k Kp (fuel + 1) listed L Fs := fun w a hs hf hΦ => by
  simp only [Bool.and_eq_true, Bool.not_eq_true'] at hc
  obtain ⟨⟨⟨⟨c1, c2⟩, c3⟩, c5⟩, c7⟩ := hc
  have hik : i ≠ k := fun e => by subst e; simp at c5
  refine wpAnyS_firstP (oi := ⟨some d, op, ty, pos, af, none⟩) (v := v) hi (Region.noSelect_spec c1) (fun c a w => hQ c a _ v w) hik fuel listed a w (Region.free_spec hi c2) (by simpa using c3) (.inl ⟨rfl, fun w' => hv noB w' w' a (.nil (.refl _ _)) hf _ _ _ _⟩) hΦ ?_
  exact h w _ hs (hf.put (Nat.le_of_ble_eq_true c7) v) (by rw [getD_set_ne false hik]; exact hΦ)
/-- The one that may come up comes up. -/
theorem GD.step {i : Nat} {d : Option Tmp} {op : Op} {ty : TypeId} {pos : String} {af : Array Edge} (hr : Region.ready .any ops listed = [i]) (hi : ops[i]? = some ⟨d, op, ty, pos, af, none⟩)
    (h : OT X ⟨d, op, ty, pos, af, none⟩ L Fs (fun L' Fs' => ((listed.setIfInBounds i true).getD k false = true ∨ ∀ w, Hd X.K X.w0 w Fs' → Hd X.K X.w0 w Kp) ∧ GD X ops Q k Kp fuel (listed.setIfInBounds i true) L' Fs')) :
    GD X ops Q k Kp (fuel + 1) listed L Fs := fun w a hs hf hΦ => by
  refine ⟨fun e => by rw [hr] at e; simp at e, fun j hj => ?_⟩
  rw [hr] at hj
  simp only [List.mem_singleton] at hj
  subst hj
  unfold wpOp
  rw [hi]
  refine .inl (h w a hs hf _ _ fun L' Fs' hC w' a' hs' hf' => ?_)
  have hΦ' : (listed.setIfInBounds j true).getD k false = true ∨ Hd X.K X.w0 w' Kp := hC.1.imp id (fun x => x w' hs'.hd)
  exact ⟨hΦ', hC.2 w' a' hs' hf' hΦ'⟩
/-- Of those that may come up each. -/
theorem GD.each {rs : List Nat} (hr : Region.ready .any ops listed = rs) (hne : rs ≠ [])
    (h : ∀ i ∈ rs, ∃ d op ty pos af, ops[i]? = some ⟨d, op, ty, pos, af, none⟩ ∧ OT X ⟨d, op, ty, pos, af, none⟩ L Fs (fun L' Fs' => ((listed.setIfInBounds i true).getD k false = true ∨ ∀ w, Hd X.K X.w0 w Fs' → Hd X.K X.w0 w Kp) ∧ GD X ops Q k Kp fuel (listed.setIfInBounds i true) L' Fs')) :
    GD X ops Q k Kp (fuel + 1) listed L Fs := fun w a hs hf hΦ => by
  refine ⟨fun e => by rw [hr] at e; exact absurd e hne, fun j hj => ?_⟩
  rw [hr] at hj
  obtain ⟨d, op, ty, pos, af, hi, hO⟩ := h j hj
  unfold wpOp
  rw [hi]
  refine .inl (hO w a hs hf _ _ fun L' Fs' hC w' a' hs' hf' => ?_)
  have hΦ' : (listed.setIfInBounds j true).getD k false = true ∨ Hd X.K X.w0 w' Kp := hC.1.imp id (fun x => x w' hs'.hd)
  exact ⟨hΦ', hC.2 w' a' hs' hf' hΦ'⟩
theorem GD.each2 {i j : Nat} {d d' : Option Tmp} {op op' : Op} {ty ty' : TypeId} {pos pos' : String} {af af' : Array Edge} (hr : Region.ready .any ops listed = [i, j]) (hi : ops[i]? = some ⟨d, op, ty, pos, af, none⟩) (hj : ops[j]? = some ⟨d', op', ty', pos', af', none⟩)
    (h : OT X ⟨d, op, ty, pos, af, none⟩ L Fs (fun L' Fs' => ((listed.setIfInBounds i true).getD k false = true ∨ ∀ w, Hd X.K X.w0 w Fs' → Hd X.K X.w0 w Kp) ∧ GD X ops Q k Kp fuel (listed.setIfInBounds i true) L' Fs'))
    (h' : OT X ⟨d', op', ty', pos', af', none⟩ L Fs (fun L' Fs' => ((listed.setIfInBounds j true).getD k false = true ∨ ∀ w, Hd X.K X.w0 w Fs' → Hd X.K X.w0 w Kp) ∧ GD X ops Q k Kp fuel (listed.setIfInBounds j true) L' Fs')) :
    GD X ops Q k Kp (fuel + 1) listed L Fs :=
  GD.each hr (by simp) fun q hq => by
    simp only [List.mem_cons, List.not_mem_nil, or_false] at hq
    rcases hq with rfl | rfl
    · exact ⟨_, _, _, _, _, hi, h⟩
    · exact ⟨_, _, _, _, _, hj, h'⟩
theorem GD.done (hr : Region.ready .any ops listed = []) (h : GX X .normal Q L Fs) : GD X ops Q k Kp fuel listed L Fs := fun w a hs hf _ => by
  cases fuel with
  | zero => exact ⟨hr, h w a hs hf⟩
  | succ n => exact ⟨fun _ => h w a hs hf, fun i hi => by rw [hr] at hi; simp at hi⟩
end Go.Bz
