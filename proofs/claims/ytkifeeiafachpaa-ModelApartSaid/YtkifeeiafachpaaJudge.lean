/- The walk's judgement: a frame and separate pieces in front of what is left of the code. Nothing of the program stands here. -/
import Derived.Test.YtkifeeiafachpaaOps
set_option linter.unusedVariables false
set_option linter.unusedSimpArgs false
namespace Go.Bz
open Go Go.RowKit

/-- what a walk is about: the program, the call's beginning, what may turn of what was there, the frame's length -/
structure Cx where
  P : Program
  K : Nat → Prop
  w0 : World
  n : Nat

def GC (X : Cx) (c : Code) (Q : Exit → Act → World → Prop) (L : List (Nat × Value)) (Fs : List Pc) : Prop :=
  ∀ w a, St X.K X.w0 w Fs → Fr X.n L a → c.wp X.P Q a w
def GL (X : Cx) (ops : Array Oper) (rest : List Oper) (Q : Exit → Act → World → Prop) (L : List (Nat × Value)) (Fs : List Pc) : Prop :=
  ∀ w a, St X.K X.w0 w Fs → Fr X.n L a → wpList X.P ops Q rest a w
/-- a way out of a piece of code -/
def GX (X : Cx) (e : Exit) (Q : Exit → Act → World → Prop) (L : List (Nat × Value)) (Fs : List Pc) : Prop :=
  ∀ w a, St X.K X.w0 w Fs → Fr X.n L a → Q e a w

variable {X : Cx} {ops : Array Oper} {rest : List Oper} {Q Q' : Exit → Act → World → Prop} {L L' : List (Nat × Value)} {Fs Fs' : List Pc} {c c' : Code}

theorem GC.seq (h : GC X c (Exit.then (c'.wp X.P Q) Q) L Fs) : GC X (c.seq c') Q L Fs := fun w a hs hf => wp_seq (h w a hs hf)
theorem GC.reg {id : Nat} {l : List Oper} (h : GL X l.toArray l Q L Fs) : GC X (.region id l.toArray false) Q L Fs := fun w a hs hf => wp_region_lit (h w a hs hf)
theorem GC.skip (h : GX X .normal Q L Fs) : GC X .skip Q L Fs := fun w a hs hf => wp_skip (h w a hs hf)
theorem GC.ret (h : GX X .ret Q L Fs) : GC X .ret Q L Fs := fun w a hs hf => wp_ret (h w a hs hf)
theorem GC.exit {id : Nat} (h : GX X (.exit id) Q L Fs) : GC X (.exit id) Q L Fs := fun w a hs hf => wp_exit (h w a hs hf)
theorem GC.block {id : Nat} (h : GC X c (Exit.inBlock id Q) L Fs) : GC X (.block id c) Q L Fs := fun w a hs hf => wp_block (h w a hs hf)
theorem GC.cond {x : Operand} {b : Bool} (e : ev L x = some (.bool b)) (ht : b = true → GC X c Q L Fs) (hf : b = false → GC X c' Q L Fs) : GC X (.cond x c c') Q L Fs := fun w a hs hr =>
  wp_cond_split (hr.ev e) (fun h => ht h w a hs hr) (fun h => hf h w a hs hr)
/-- a test on a decidable fact -/
theorem GC.condP {x : Operand} {p : Prop} [Decidable p] (e : ev L x = some (.bool (decide p))) (ht : p → GC X c Q L Fs) (hf : ¬ p → GC X c' Q L Fs) : GC X (.cond x c c') Q L Fs :=
  GC.cond e (fun h => ht (of_decide_eq_true h)) (fun h => hf (of_decide_eq_false h))

theorem GL.nil (h : GX X .normal Q L Fs) : GL X ops [] Q L Fs := fun w a hs hf => h w a hs hf
theorem GX.then (h : GC X c Q L Fs) : GX X .normal (Exit.then (c.wp X.P Q) Q') L Fs := fun w a hs hf => h w a hs hf
theorem GX.thenK {N : Act → World → Prop} (h : GX X .normal (fun _ => N) L Fs) : GX X .normal (Exit.then N Q') L Fs := fun w a hs hf => h w a hs hf
theorem GX.then_exit {id : Nat} {N : Act → World → Prop} (h : GX X (.exit id) Q L Fs) : GX X (.exit id) (Exit.then N Q) L Fs := h
theorem GX.then_ret {N : Act → World → Prop} (h : GX X .ret Q L Fs) : GX X .ret (Exit.then N Q) L Fs := h
theorem GX.blk {id : Nat} (h : GX X .normal Q L Fs) : GX X .normal (Exit.inBlock id Q) L Fs := h
theorem GX.blk_ret {id : Nat} (h : GX X .ret Q L Fs) : GX X .ret (Exit.inBlock id Q) L Fs := h
theorem GX.blk_eq {id : Nat} (h : GX X .normal Q L Fs) : GX X (.exit id) (Exit.inBlock id Q) L Fs := fun w a hs hf => by
  show if id = id then Q .normal a w else Q (.exit id) a w
  rw [if_pos rfl]; exact h w a hs hf
theorem GX.blk_ne {id id' : Nat} (hne : id' ≠ id) (h : GX X (.exit id') Q L Fs) : GX X (.exit id') (Exit.inBlock id Q) L Fs := fun w a hs hf => by
  show if id' = id then Q .normal a w else Q (.exit id') a w
  rw [if_neg hne]; exact h w a hs hf

theorem GC.sub (h : GC X c Q L' Fs) (k : Sub L L') : GC X c Q L Fs := fun w a hs hf => h w a hs (k _ _ hf)
theorem GC.st (k : ∀ w, St X.K X.w0 w Fs → St X.K X.w0 w Fs') (h : GC X c Q L Fs') : GC X c Q L Fs := fun w a hs hf => h w a (k w hs) hf
theorem GL.st (k : ∀ w, St X.K X.w0 w Fs → St X.K X.w0 w Fs') (h : GL X ops rest Q L Fs') : GL X ops rest Q L Fs := fun w a hs hf => h w a (k w hs) hf
theorem GX.st {e : Exit} (k : ∀ w, St X.K X.w0 w Fs → St X.K X.w0 w Fs') (h : GX X e Q L Fs') : GX X e Q L Fs := fun w a hs hf => h w a (k w hs) hf

/-- A loop whose invariant bears a number that each round lowers. -/
theorem loop_idx {P : Program} {c : Code} {Q : Exit → Act → World → Prop} (J : Nat → Act → World → Prop)
    (round : ∀ k a w, J k a w → c.wp P (Exit.then (fun a' w' => ∃ k', k' < k ∧ J k' a' w') Q) a w) {k : Nat} {a : Act} {w : World} (h : J k a w) : (Code.loop c).wp P Q a w := by
  intro b it cs
  have key : ∀ k a w, J k a w → ∃ e a' w', Q e a' w' ∧ Arrives P (lone (b.at a (.code c :: .inLoop c :: it)) cs w) b it cs e a' w' := by
    intro k
    induction k using Nat.strongRecOn with
    | _ k ih =>
      intro a w hJ
      obtain ⟨e, a₁, w₁, hq, harr⟩ := round k a w hJ b (.inLoop c :: it) cs
      cases e with
      | normal =>
        obtain ⟨k', hlt, hJ'⟩ := hq
        obtain ⟨e₂, a₂, w₂, hq₂, harr₂⟩ := ih k' hlt a₁ w₁ hJ'
        exact ⟨e₂, a₂, w₂, hq₂, .of_steps (Steps.trans harr (.one step_inLoop)) harr₂⟩
      | exit id => exact ⟨_, a₁, w₁, hq, .pass (x := .inLoop c) rfl (fun _ _ => .inl (by simp)) harr⟩
      | goto l => exact ⟨_, a₁, w₁, hq, .pass (x := .inLoop c) rfl (fun _ _ => .inl (by simp)) harr⟩
      | ret => exact ⟨_, a₁, w₁, hq, .pass (x := .inLoop c) rfl (fun _ _ => .inl (by simp)) harr⟩
      | panic ch => exact ⟨_, a₁, w₁, hq, .pass (x := .inLoop c) rfl (fun _ _ => .inl (by simp)) harr⟩
      | outgrown => exact ⟨_, a₁, w₁, hq, .pass (x := .inLoop c) rfl (fun _ _ => .inl (by simp)) harr⟩
  obtain ⟨e, a', w', hq, harr⟩ := key k a w h
  exact ⟨e, a', w', hq, .of_steps (.one step_loop) harr⟩

/-- what a round of a loop must come to -/
def Round (X : Cx) {γ : Type} (I : γ → List (Nat × Value)) (H : γ → List Pc) (Φ : γ → Prop) (m : γ → Nat) (k : Nat) (a : Act) (w : World) : Prop :=
  ∃ g, m g < k ∧ Φ g ∧ St X.K X.w0 w (H g) ∧ Fr X.n (I g) a
/-- A loop: what holds at each round's head hangs on a ghost; each round lowers its measure. -/
theorem GC.loop {γ : Type} (I : γ → List (Nat × Value)) (H : γ → List Pc) (Φ : γ → Prop) (m : γ → Nat) (g0 : γ)
    (h0 : Φ g0) (hL : Sub L (I g0)) (hF : ∀ w, St X.K X.w0 w Fs → St X.K X.w0 w (H g0))
    (round : ∀ g, Φ g → GC X c (Exit.then (Round X I H Φ m (m g)) Q) (I g) (H g)) : GC X (.loop c) Q L Fs := fun w a hs hf =>
  loop_idx (fun k a w => ∃ g, m g = k ∧ Φ g ∧ St X.K X.w0 w (H g) ∧ Fr X.n (I g) a)
    (fun k a w ⟨g, hk, hΦ, hS, hFr⟩ => by
      subst hk
      refine wp_mono (round g hΦ w a hS hFr) fun e a w hq => ?_
      cases e with
      | normal => obtain ⟨g', h1, h2, h3, h4⟩ := hq; exact ⟨_, h1, g', rfl, h2, h3, h4⟩
      | _ => exact hq)
    ⟨g0, rfl, h0, hF w hs, hL _ _ hf⟩
theorem GX.round {γ : Type} {I : γ → List (Nat × Value)} {H : γ → List Pc} {Φ : γ → Prop} {m : γ → Nat} {k : Nat} (g : γ) (hm : m g < k) (hΦ : Φ g) (hL : Sub L (I g))
    (hF : ∀ w, St X.K X.w0 w Fs → St X.K X.w0 w (H g)) : GX X .normal (Exit.then (Round X I H Φ m k) Q) L Fs := fun w a hs hf => ⟨g, hm, hΦ, hF w hs, hL _ _ hf⟩

/-! ### The end of a call -/
def resOne (tmps : Array Value) : ResultVar → Sem Value
  | .tmp t => pure (tmps.getD t undef)
  | .cell a t => do loadVar t (← asAddr (tmps.getD a undef))
theorem results_def (fn : Func) (tmps : Array Value) : results fn tmps = (do let vs ← fn.results.mapM (resOne tmps); pure (if h : vs.size = 1 then vs[0] else .tuple vs)) := by
  unfold results resOne; rfl
/-- what one result is, of a frame and of pieces -/
def RR (X : Cx) (L : List (Nat × Value)) (Fs : List Pc) (r : ResultVar) (v : Value) : Prop := ∀ w a, Hd X.K X.w0 w Fs → Fr X.n L a → (resOne a.tmps r).run X.P w = .ok v w
theorem RR.tmp {t : Nat} {v : Value} (e : lk L t = some v) : RR X L Fs (.tmp t) v := fun w a hs hf => by
  show (Sem.pure (a.tmps.getD t undef)).run X.P w = _
  rw [hf.at_ t v e]; rfl
theorem RR.cell {t T b o : Nat} {cs : List Value} (ht : aggB X.P T = some true) (e : lk L t = some (.pointer (some ⟨b, o, none⟩)))
    (hc : ∀ w, Hd X.K X.w0 w Fs → Cells w b o cs) (hz : (X.P.info? T).map (·.size) = some cs.length) : RR X L Fs (.cell t T) (.agg cs.toArray) := fun w a hs hf => by
  show (do loadVar T (← asAddr (a.tmps.getD t undef)) : Sem Value).run X.P w = _
  rw [hf.at_ t _ e]
  simp only [asAddr, Sem.run_bind, Sem.run_pure, Result.andThen_ok, run_loadVar_cells ht hz (hc w hs)]

variable {fn : Func} {R : Ending → World → Prop}
theorem GX.ret0 (hr : fn.results = #[]) (h : ∀ w, St X.K X.w0 w Fs → R (.returned (.tuple #[])) w) : GX X .ret (bodyPost X.P fn R) L Fs := fun w a hs hf =>
  ⟨hf.defers, _, by simp [results, hr, go_sem], h w hs⟩
theorem GX.end0 (hr : fn.results = #[]) (h : ∀ w, St X.K X.w0 w Fs → R (.returned (.tuple #[])) w) : GX X .normal (bodyPost X.P fn R) L Fs := fun w a hs hf =>
  ⟨hf.defers, _, by simp [results, hr, go_sem], h w hs⟩
theorem GX.ret1 {r1 : ResultVar} {v1 : Value} (hr : fn.results = #[r1]) (h1 : RR X L Fs r1 v1) (h : ∀ w, St X.K X.w0 w Fs → R (.returned v1) w) : GX X .ret (bodyPost X.P fn R) L Fs := fun w a hs hf =>
  ⟨hf.defers, _, by
    have e1 := h1 w a hs.hd hf
    rw [results_def]; simp only [hr]
    simp [e1, go_sem], h w hs⟩
theorem GX.ret2 {r1 r2 : ResultVar} {v1 v2 : Value} (hr : fn.results = #[r1, r2]) (h1 : RR X L Fs r1 v1) (h2 : RR X L Fs r2 v2) (h : ∀ w, St X.K X.w0 w Fs → R (.returned (.tuple #[v1, v2])) w) : GX X .ret (bodyPost X.P fn R) L Fs := fun w a hs hf =>
  ⟨hf.defers, _, by
    have e1 := h1 w a hs.hd hf
    have e2 := h2 w a hs.hd hf
    rw [results_def]; simp only [hr]
    simp [e1, e2, go_sem], h w hs⟩
theorem GX.ret3 {r1 r2 r3 : ResultVar} {v1 v2 v3 : Value} (hr : fn.results = #[r1, r2, r3]) (h1 : RR X L Fs r1 v1) (h2 : RR X L Fs r2 v2) (h3 : RR X L Fs r3 v3) (h : ∀ w, St X.K X.w0 w Fs → R (.returned (.tuple #[v1, v2, v3])) w) : GX X .ret (bodyPost X.P fn R) L Fs := fun w a hs hf =>
  ⟨hf.defers, _, by
    have e1 := h1 w a hs.hd hf
    have e2 := h2 w a hs.hd hf
    have e3 := h3 w a hs.hd hf
    rw [results_def]; simp only [hr]
    simp [e1, e2, e3, go_sem], h w hs⟩

/-! ### One operation of a list -/
/-- One operation, from here to whatever comes. -/
def OT (X : Cx) (o : Oper) (L : List (Nat × Value)) (Fs : List Pc) (C : List (Nat × Value) → List Pc → Prop) : Prop :=
  ∀ w a, St X.K X.w0 w Fs → Fr X.n L a → ∀ (N : Act → World → Prop) (Q : Exit → Act → World → Prop),
    (∀ L' Fs', C L' Fs' → ∀ w' a', St X.K X.w0 w' Fs' → Fr X.n L' a' → N a' w') → o.wp X.P a w N Q
theorem GL.step {d : Option Tmp} {op : Op} {ty : TypeId} {pos : String} {af : Array Edge} (h : OT X ⟨d, op, ty, pos, af, none⟩ L Fs (fun L' Fs' => GL X ops rest Q L' Fs')) : GL X ops (⟨d, op, ty, pos, af, none⟩ :: rest) Q L Fs := fun w a hs hf =>
  wpList_plain rfl fun _ hK => h w a hs hf _ _ fun L' Fs' hC w' a' hs' hf' => hK _ _ (hC w' a' hs' hf')

variable {C : List (Nat × Value) → List Pc → Prop} {g : Option (Nat × Bool)} {ty : TypeId} {pos : String} {af : Array Edge}
theorem ot_val {d : Nat} {op : Op} {v : Value} (hv : RV X.P X.K X.w0 X.n L Fs op ty v) (hd : Nat.ble (d + 1) X.n = true) (h : C ((d, v) :: L) Fs) : OT X ⟨some d, op, ty, pos, af, g⟩ L Fs C := fun w a hs hf N Q hN => by
  unfold Oper.wp
  rw [hv w a hs.hd hf, Oper.upon_value]
  exact hN _ _ h w _ hs (hf.put (Nat.le_of_ble_eq_true hd) v)
theorem GL.val {d : Nat} {op : Op} {v : Value} (hv : RV X.P X.K X.w0 X.n L Fs op ty v) (hd : Nat.ble (d + 1) X.n = true) (h : GL X ops rest Q ((d, v) :: L) Fs) :
    GL X ops (⟨some d, op, ty, pos, af, none⟩ :: rest) Q L Fs := GL.step (ot_val hv hd h)
/-- An operation that turns the memory: what it yields is known up to a ghost. -/
theorem ot_eff {γ : Type} {Φ : γ → Prop} {d : Nat} {op : Op} {v : γ → Value} {H : γ → List Pc}
    (hv : ∀ w a, St X.K X.w0 w Fs → Fr X.n L a → ∃ g' w', (execOp a.eval ⟨some d, op, ty, pos, af, g⟩).run X.P w = .ok (.value (v g')) w' ∧ St X.K X.w0 w' (H g') ∧ Φ g')
    (hd : Nat.ble (d + 1) X.n = true) (h : ∀ g, Φ g → C ((d, v g) :: L) (H g)) : OT X ⟨some d, op, ty, pos, af, g⟩ L Fs C := fun w a hs hf N Q hN => by
  obtain ⟨g, w', e, hs', hΦ⟩ := hv w a hs hf
  unfold Oper.wp
  rw [e, Oper.upon_value]
  exact hN _ _ (h g hΦ) w' _ hs' (hf.put (Nat.le_of_ble_eq_true hd) _)
/-- An operation for its effect alone. -/
theorem ot_eff0 {op : Op} (hv : ∀ w a, St X.K X.w0 w Fs → Fr X.n L a → ∃ w', (execOp a.eval ⟨none, op, ty, pos, af, g⟩).run X.P w = .ok .skip w' ∧ St X.K X.w0 w' Fs')
    (h : C L Fs') : OT X ⟨none, op, ty, pos, af, g⟩ L Fs C := fun w a hs hf N Q hN => by
  obtain ⟨w', e, hs'⟩ := hv w a hs hf
  unfold Oper.wp
  rw [e, Oper.upon_skip]
  exact hN _ _ h w' _ hs' hf

/-- What a callee's contract must say, at this frame. -/
def CallOk (X : Cx) (f : FuncId) (args : List Value) (Fs : List Pc) {γ : Type} (Φ : γ → Prop) (v : γ → Value) (H : γ → List Pc) : Prop :=
  ∀ w, St X.K X.w0 w Fs → Calls X.P f args.toArray w fun e w' => ∃ g, e = .returned (v g) ∧ St X.K X.w0 w' (H g) ∧ Φ g

def evs (L : List (Nat × Value)) : List Operand → Option (List Value)
  | [] => some []
  | x :: r => match ev L x, evs L r with
    | some v, some vs => some (v :: vs)
    | _, _ => none
theorem evs_eval {n : Nat} {a : Act} (h : Fr n L a) : ∀ {xs : List Operand} {vs : List Value}, evs L xs = some vs → xs.map a.eval = vs
  | [], vs, e => by simp [evs] at e; subst e; rfl
  | x :: r, vs, e => by
    unfold evs at e
    split at e <;> try contradiction
    rename_i v vs' h1 h2
    simp only [Option.some.injEq] at e
    subst e
    simp [h.ev h1, evs_eval h h2]
theorem run_callFunc {P : Program} {f : FuncId} {fn : Func} (hf : P.funcs[f]? = some fn) (hn : (fn.name == "runtime.NumGoroutine") = false) (hb : fn.body.isSome = true) (args : Array Value) (w : World) :
    (callFunc f args).run P w = .ok (.enter f args) w := by
  obtain ⟨c, hc⟩ := Option.isSome_iff_exists.1 hb
  have hn' : ¬ fn.name = "runtime.NumGoroutine" := by simpa using hn
  simp [callFunc, hf, hn', hc, go_sem]
/-- a function that has a body, as the program has it -/
def hasBody (P : Program) (f : FuncId) : Bool := match P.funcs[f]? with
  | some fn => !(fn.name == "runtime.NumGoroutine") && fn.body.isSome
  | none => false
theorem run_call {P : Program} {n : Nat} {a : Act} {f : FuncId} (hB : hasBody P f = true) (hfr : Fr n L a) {xs : List Operand} {vs : List Value} (e : evs L xs = some vs)
    {d : Option Tmp} {ats : Array TypeId} {ty : TypeId} {pos : String} {af : Array Edge} {g : Option (Nat × Bool)} (w : World) :
    (execOp a.eval ⟨d, .call { callee := .value (.func f), args := xs.toArray, argTypes := ats }, ty, pos, af, g⟩).run P w = .ok (.enter f vs.toArray) w := by
  unfold hasBody at hB
  split at hB <;> try contradiction
  rename_i fn hf
  simp only [Bool.and_eq_true, Bool.not_eq_true'] at hB
  have hx := evs_eval hfr e
  simp only [execOp, resolve, List.map_toArray, hx]
  have he : a.eval (.func f) = .func (.func f) #[] #[] := rfl
  rw [he]
  simp only [Deferred.ofValue, invoke, Sem.run_bind, Sem.run_pure, Result.andThen_ok, Array.empty_append, Array.append_empty, run_callFunc hf hB.1 hB.2]
theorem ot_call {γ : Type} {Φ : γ → Prop} {d f : Nat} {xs : List Operand} {vs : List Value} {ats : Array TypeId} {v : γ → Value} {H : γ → List Pc}
    (hB : hasBody X.P f = true) (e : evs L xs = some vs) (hc : CallOk X f vs Fs Φ v H) (hd : Nat.ble (d + 1) X.n = true) (h : ∀ g, Φ g → C ((d, v g) :: L) (H g)) :
    OT X ⟨some d, .call { callee := .value (.func f), args := xs.toArray, argTypes := ats }, ty, pos, af, g⟩ L Fs C := fun w a hs hf N Q hN => by
  unfold Oper.wp
  rw [run_call hB hf e w, Oper.upon_enter]
  refine (hc w hs).mono fun en w' hen => ?_
  obtain ⟨g, rfl, hs', hΦ⟩ := hen
  exact hN _ _ (h g hΦ) w' _ hs' (hf.put (Nat.le_of_ble_eq_true hd) _)
/-- the same where the call's result is let go -/
theorem ot_call0 {γ : Type} {Φ : γ → Prop} {f : Nat} {xs : List Operand} {vs : List Value} {ats : Array TypeId} {v : γ → Value} {H : γ → List Pc}
    (hB : hasBody X.P f = true) (e : evs L xs = some vs) (hc : CallOk X f vs Fs Φ v H) (h : ∀ g, Φ g → C L (H g)) :
    OT X ⟨none, .call { callee := .value (.func f), args := xs.toArray, argTypes := ats }, ty, pos, af, g⟩ L Fs C := fun w a hs hf N Q hN => by
  unfold Oper.wp
  rw [run_call hB hf e w, Oper.upon_enter]
  refine (hc w hs).mono fun en w' hen => ?_
  obtain ⟨g, rfl, hs', hΦ⟩ := hen
  exact hN _ _ (h g hΦ) w' _ hs' hf

/-! ### The beginning of a call -/
theorem GC.calls {P : Program} {K : Nat → Prop} {f : FuncId} {fn : Func} {c : Code} {args : List Value} {w : World} {R : Ending → World → Prop} {Fs : List Pc} (hf : P.funcs[f]? = some fn) (hb : fn.body = some c) (hn : Nat.ble args.length fn.ntmps = true)
    (hs : St K w w Fs) (h : GC ⟨P, K, w, fn.ntmps⟩ c (bodyPost P fn R) (args.zipIdx.map fun (v, i) => (i, v)) Fs) : Calls P f args.toArray w R :=
  calls_intro hf hb (Nat.le_of_ble_eq_true hn) fun a hfr => h w a hs hfr
end Go.Bz
