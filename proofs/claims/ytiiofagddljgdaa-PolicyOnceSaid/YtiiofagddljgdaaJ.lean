import Derived.Test.YtiiofagddljgdaaI
import Derived.DeepKeys
set_option linter.unusedVariables false
set_option linter.unusedSimpArgs false
namespace Go.Proofs.Ytiiofagddljgdaa
open Go Go.RowKit Go.Bz
theorem ag_9 : aggB Try.prog 9 = some false := by kernel_rfl
theorem fo_25_0 : fieldOff Try.prog 25 0 = some 0 := by kernel_rfl
theorem fo_25_1 : fieldOff Try.prog 25 1 = some 1 := by kernel_rfl
theorem fo_25_2 : fieldOff Try.prog 25 2 = some 2 := by kernel_rfl
/-! arrays and roots held against each other -/
def lits8 (l : Sh.B) : List Lit := l.map fun x => .int .u8 (x.toNat : Int)
theorem lits8_inj {a b : Sh.B} : lits8 a = lits8 b ↔ a = b := by
  constructor
  · intro h
    induction a generalizing b with
    | nil => cases b with
      | nil => rfl
      | cons y b => simp [lits8] at h
    | cons x a ih =>
      cases b with
      | nil => simp [lits8] at h
      | cons y b =>
        simp only [lits8, List.map_cons, List.cons.injEq, Lit.int.injEq, true_and] at h
        obtain ⟨h1, h2⟩ := h
        have e : x = y := UInt8.toNat_inj.1 (by omega)
        rw [e, ih h2]
  · intro h; rw [h]
theorem mapM_all {α β : Type} (f : α → Option β) (gg : α → β) : ∀ (l : List α), (∀ x ∈ l, f x = some (gg x)) → l.mapM f = some (l.map gg)
  | [], _ => rfl
  | x :: l, h => by
    rw [List.mapM_cons, h x (by simp), mapM_all f gg l (fun y hy => h y (by simp [hy]))]; rfl
theorem keyLits_int {P : Program} {e d : Nat} {q : IntKind} {z : Int} (he : P.underlying e = some (.int q)) (hw : (Lit.int q z).wf = true) : P.keyLits (d + 1) e [.int q z] = some [.int q z] := by
  unfold Program.keyLits; rw [he]; simp [hw]
theorem wf8 (x : UInt8) : (Lit.int .u8 (x.toNat : Int)).wf = true := by
  have := lt8 x
  have h1 : IntKind.u8.min = 0 := by decide
  have h2 : IntKind.u8.max = 255 := by decide
  simp [Lit.wf, h1, h2]; omega
theorem wf64 (x : UInt64) : (Lit.int .u64 (x.toNat : Int)).wf = true := by
  have := lt64 x
  have h1 : IntKind.u64.min = 0 := by decide
  have h2 : IntKind.u64.max = 18446744073709551615 := by decide
  simp [Lit.wf, h1, h2]; omega
theorem keyLits_arr {P : Program} {t e n d : Nat} (ht : P.underlying t = some (.array n e)) (he : P.underlying e = some (.int .u8)) (hct : P.cellsOf t = n) (hce : P.cellsOf e = 1) (l : Sh.B) (hl : l.length = n) : P.keyLits (d + 2) t (ws8 l) = some (lits8 l) := by
  unfold Program.keyLits
  rw [ht]
  simp only [hct, ws8_len, hl, if_true, hce, Nat.mul_one]
  rw [mapM_all _ (fun i => [Lit.int .u8 ((l.getD i 0).toNat : Int)]) _ (fun i hi => by
    have hlt : i < l.length := by rw [hl]; exact List.mem_range.1 hi
    have e1 : ((ws8 l).drop i).take 1 = [v8 (l.getD i 0)] := by
      have hg : (ws8 l)[i]'(by rw [ws8_len]; exact hlt) = v8 (l.getD i 0) := by
        have := ws8_get hlt
        rw [List.getElem?_eq_getElem (by rw [ws8_len]; exact hlt)] at this
        exact Option.some.inj this
      rw [List.drop_eq_getElem_cons (by rw [ws8_len]; exact hlt), List.take_succ_cons, List.take_zero, hg]
    rw [e1]; exact keyLits_int he (wf8 _))]
  simp only [Option.map_some, Option.some.injEq]
  rw [← List.flatMap_def]
  apply List.ext_getElem?
  intro i
  have e2 : (List.range n).flatMap (fun i => [Lit.int .u8 ((l.getD i 0).toNat : Int)]) = (List.range n).map (fun i => Lit.int .u8 ((l.getD i 0).toNat : Int)) := by
    induction (List.range n) with
    | nil => rfl
    | cons x r ih => rw [List.flatMap_cons, List.map_cons, ih]; rfl
  rw [e2]
  unfold lits8
  rw [List.getElem?_map, List.getElem?_map]
  by_cases h : i < n
  · rw [List.getElem?_range h, List.getElem?_eq_getElem (by omega)]
    simp [List.getD_eq_getElem?_getD, List.getElem?_eq_getElem (show i < l.length by omega)]
  · rw [List.getElem?_eq_none (by simp; omega), List.getElem?_eq_none (by omega)]; rfl
variable {L : List (Nat × Value)} {Fs : List Pc} {ty : TypeId} {x y : Operand}
theorem rv_eqDeep {K : Nat → Prop} {w0 : World} {n m : Nat} {t t' : TypeId} {a b : List Value} {la lb : List Lit} {P : Program} (ex : ev L x = some (.agg a.toArray)) (ey : ev L y = some (.agg b.toArray)) (hg : P.eqGuardType P.depth t = false) (hm : m ≤ 10000) (hk : P.keyTypeAt m t = true)
    (ha : (Value.agg a.toArray).formed P t = true) (hb : (Value.agg b.toArray).formed P t = true) (hla : P.keyLits 10 t a = some la) (hlb : P.keyLits 10 t b = some lb) {p : Prop} [Decidable p] (hp : la = lb ↔ p) : RV P K w0 n L Fs (.binOp .eql t x y t') ty (.bool (decide p)) :=
  rv_bin ex ey fun w => by
    have e1 : (eqGuard .eql t x y (.agg a.toArray) (.agg b.toArray)).run P w = .ok () w := by
      simp [eqGuard, hg, go_sem]
    have hd := run_equalIn_deep (P := P) (10000 - m) m t hk w 10 10 (.agg a.toArray) (.agg b.toArray) la lb ha hb hla hlb
    rw [show 10000 - m + m = 10000 by omega] at hd
    obtain ⟨r, hr, hiff⟩ := hd
    have e2 : binOp .eql t (.agg a.toArray) (.agg b.toArray) = (do pure (.bool (← Op.equal t (.agg a.toArray) (.agg b.toArray)))) := rfl
    have e3 : (Op.equal t (.agg a.toArray) (.agg b.toArray)).run P w = .ok r w := hr
    have e4 : r = decide p := by
      rw [Bool.eq_iff_iff, hiff, hp]; simp
    rw [Sem.run_bind, e1, Result.andThen_ok, e2, Sem.run_bind, e3, e4]; rfl
theorem cells24 : Try.prog.cellsOf 27 = 32 := by kernel_rfl
theorem cells5 : Try.prog.cellsOf 5 = 1 := by kernel_rfl
theorem cells22 : Try.prog.cellsOf 23 = 1 := by kernel_rfl
theorem egt24 : Try.prog.eqGuardType Try.prog.depth 27 = false := by kernel_rfl
theorem ktt24 : Try.prog.keyTypeAt 3 27 = true := by kernel_rfl
theorem formed24 (l : Sh.B) (h : l.length = 32) : (Value.agg (ws8 l).toArray).formed Try.prog 27 = true := by
  simp [Value.formed, Try.underlying27, cells24, ws8_len, h]
theorem rv_eq24 {K : Nat → Prop} {w0 : World} {n : Nat} {t' : TypeId} {a b : Sh.B} (ex : ev L x = some (.agg (ws8 a).toArray)) (ey : ev L y = some (.agg (ws8 b).toArray)) (ha : a.length = 32) (hb : b.length = 32) : RV Try.prog K w0 n L Fs (.binOp .eql 27 x y t') ty (.bool (decide (a = b))) :=
  rv_eqDeep ex ey egt24 (by decide) ktt24 (formed24 a ha) (formed24 b hb) (keyLits_arr (d := 8) Try.underlying27 Try.underlying5 cells24 cells5 a ha) (keyLits_arr (d := 8) Try.underlying27 Try.underlying5 cells24 cells5 b hb) lits8_inj
set_option maxRecDepth 100000 in
set_option maxHeartbeats 1000000 in
theorem sbind_c (nm : ByteArray) (key : Sh.B) (kA : Option Addr) (kc : Nat) (ser : UInt64) (nm2 : ByteArray) (key2 : Sh.B) (kA2 : Option Addr) (kc2 : Nat) (ser2 : UInt64) (w : World) (hk : SlR w kA (byts key)) (hk2 : SlR w kA2 (byts key2)) : Calls Try.prog 12 [.agg (bcell nm key kA kc ser).toArray, .agg (bcell nm2 key2 kA2 kc2 ser2).toArray].toArray w fun e w' => ∃ _g : Unit, e = .returned (.bool (decide (nm = nm2 ∧ ser = ser2 ∧ key = key2))) ∧ St noB w w' [] ∧ True := by
  refine GC.calls Try.func12 rfl rfl (St.begin _) ?_
  refine GC.seq ?_
  refine GC.reg ?_
  refine GL.step (ot_box rfl rfl rfl fun b2 => ?_)
  refine GL.step (ot_box rfl rfl rfl fun b3 => ?_)
  refine GL.val (rv_assign rfl) rfl ?_
  refine GL.nil ?_
  refine GX.then ?_
  refine GC.seq ?_
  refine GC.cutq (γ := Unit) [] [1, 0] (fun g Lk => (4, .bool (decide (nm = nm2 ∧ ser = ser2 ∧ key = key2))) :: Lk) (fun g Fk => Fk) (fun g => True) rfl rfl ?_ (fun _ _ => ?_)
  · rcases (by by_cases h1 : nm = nm2 <;> by_cases h2 : ser = ser2 <;> simp [h1, h2] : ¬ nm = nm2 ∨ (nm = nm2 ∧ ¬ ser = ser2) ∨ (nm = nm2 ∧ ser = ser2)) with h | h | h
    · rw [show decide (nm = nm2 ∧ ser = ser2 ∧ key = key2) = false from decide_eq_false (fun q => h q.1)]
      refine GC.reg ?_
      refine GL.val (rv_field fo_25_0 rfl rfl) rfl ?_
      refine GL.val (rv_load ag_9 rfl (by first | exact Hd.cell (k := 1) rfl rfl | exact Hd.rowCell (k := 1) rfl (by assumption))) rfl ?_
      refine GL.val (rv_field fo_25_0 rfl rfl) rfl ?_
      refine GL.val (rv_load ag_9 rfl (by first | exact Hd.cell (k := 0) rfl rfl | exact Hd.rowCell (k := 0) rfl (by assumption))) rfl ?_
      refine GL.val ((by first | exact rv_to (v' := .bool true) (rv_eqS rfl rfl) (by simp only [Value.bool.injEq, decide_eq_true_eq, decide_eq_false_iff_not]; first | assumption | omega) | exact rv_to (v' := .bool false) (rv_eqS rfl rfl) (by simp only [Value.bool.injEq, decide_eq_true_eq, decide_eq_false_iff_not]; first | assumption | omega))) rfl ?_
      refine GL.val (rv_move rfl) rfl ?_
      first | refine GL.skipG rfl rfl ?_ | refine GL.skipU rfl rfl ?_ | refine GL.valT rfl (rv_field fo_25_2 rfl rfl) rfl ?_ | refine GL.valG rfl (fun hb => rv_field fo_25_2 (by first | exact evb rfl hb | rfl) (by first | exact evb rfl hb | rfl)) rfl ?_
      first | refine GL.skipG rfl rfl ?_ | refine GL.skipU rfl rfl ?_ | refine GL.valT rfl (rv_load ag_23 rfl (by first | exact Hd.cell (k := 1) rfl rfl | exact Hd.rowCell (k := 1) rfl (by assumption))) rfl ?_ | refine GL.valG rfl (fun hb => rv_load ag_23 (by first | exact evb rfl hb | rfl) (by first | exact Hd.cell (k := 1) (by first | exact evb rfl hb | rfl) (by first | exact evb rfl hb | rfl) | exact Hd.rowCell (k := 1) (by first | exact evb rfl hb | rfl) (by assumption))) rfl ?_
      first | refine GL.skipG rfl rfl ?_ | refine GL.skipU rfl rfl ?_ | refine GL.valT rfl (rv_field fo_25_2 rfl rfl) rfl ?_ | refine GL.valG rfl (fun hb => rv_field fo_25_2 (by first | exact evb rfl hb | rfl) (by first | exact evb rfl hb | rfl)) rfl ?_
      first | refine GL.skipG rfl rfl ?_ | refine GL.skipU rfl rfl ?_ | refine GL.valT rfl (rv_load ag_23 rfl (by first | exact Hd.cell (k := 0) rfl rfl | exact Hd.rowCell (k := 0) rfl (by assumption))) rfl ?_ | refine GL.valG rfl (fun hb => rv_load ag_23 (by first | exact evb rfl hb | rfl) (by first | exact Hd.cell (k := 0) (by first | exact evb rfl hb | rfl) (by first | exact evb rfl hb | rfl) | exact Hd.rowCell (k := 0) (by first | exact evb rfl hb | rfl) (by assumption))) rfl ?_
      first | refine GL.skipG rfl rfl ?_ | refine GL.skipU rfl rfl ?_ | refine GL.valT rfl ((by first | exact rv_to (v' := .bool true) (rv_eq64 rfl rfl) (by simp only [Value.bool.injEq, decide_eq_true_eq, decide_eq_false_iff_not]; first | assumption | omega) | exact rv_to (v' := .bool false) (rv_eq64 rfl rfl) (by simp only [Value.bool.injEq, decide_eq_true_eq, decide_eq_false_iff_not]; first | assumption | omega))) rfl ?_ | refine GL.valG rfl (fun hb => (by first | exact rv_to (v' := .bool true) (rv_eq64 (by first | exact evb rfl hb | rfl) (by first | exact evb rfl hb | rfl)) (by simp only [Value.bool.injEq, decide_eq_true_eq, decide_eq_false_iff_not]; first | assumption | omega) | exact rv_to (v' := .bool false) (rv_eq64 (by first | exact evb rfl hb | rfl) (by first | exact evb rfl hb | rfl)) (by simp only [Value.bool.injEq, decide_eq_true_eq, decide_eq_false_iff_not]; first | assumption | omega))) rfl ?_
      refine GL.val ((by first | exact rv_andT rfl rfl rfl | exact rv_andF rfl rfl rfl | exact rv_pickAnd rfl rfl rfl)) rfl ?_
      refine GL.val (rv_move rfl) rfl ?_
      first | refine GL.skipG rfl rfl ?_ | refine GL.skipU rfl rfl ?_ | refine GL.valT rfl (rv_field fo_25_1 rfl rfl) rfl ?_ | refine GL.valG rfl (fun hb => rv_field fo_25_1 (by first | exact evb rfl hb | rfl) (by first | exact evb rfl hb | rfl)) rfl ?_
      first | refine GL.skipG rfl rfl ?_ | refine GL.skipU rfl rfl ?_ | refine GL.valT rfl (rv_load ag_22 rfl (by first | exact Hd.cell (k := 1) rfl rfl | exact Hd.rowCell (k := 1) rfl (by assumption))) rfl ?_ | refine GL.valG rfl (fun hb => rv_load ag_22 (by first | exact evb rfl hb | rfl) (by first | exact Hd.cell (k := 1) (by first | exact evb rfl hb | rfl) (by first | exact evb rfl hb | rfl) | exact Hd.rowCell (k := 1) (by first | exact evb rfl hb | rfl) (by assumption))) rfl ?_
      first | refine GL.skipG rfl rfl ?_ | refine GL.skipU rfl rfl ?_ | refine GL.valT rfl (rv_convBS Try.underlying22 Try.underlying5 Try.underlying9 rfl (fun w h => h.rd0n hk) rfl) rfl ?_ | refine GL.valG rfl (fun hb => rv_convBS Try.underlying22 Try.underlying5 Try.underlying9 (by first | exact evb rfl hb | rfl) (fun w h => h.rd0n hk) (by first | exact evb rfl hb | rfl)) rfl ?_
      first | refine GL.skipG rfl rfl ?_ | refine GL.skipU rfl rfl ?_ | refine GL.valT rfl (rv_field fo_25_1 rfl rfl) rfl ?_ | refine GL.valG rfl (fun hb => rv_field fo_25_1 (by first | exact evb rfl hb | rfl) (by first | exact evb rfl hb | rfl)) rfl ?_
      first | refine GL.skipG rfl rfl ?_ | refine GL.skipU rfl rfl ?_ | refine GL.valT rfl (rv_load ag_22 rfl (by first | exact Hd.cell (k := 0) rfl rfl | exact Hd.rowCell (k := 0) rfl (by assumption))) rfl ?_ | refine GL.valG rfl (fun hb => rv_load ag_22 (by first | exact evb rfl hb | rfl) (by first | exact Hd.cell (k := 0) (by first | exact evb rfl hb | rfl) (by first | exact evb rfl hb | rfl) | exact Hd.rowCell (k := 0) (by first | exact evb rfl hb | rfl) (by assumption))) rfl ?_
      first | refine GL.skipG rfl rfl ?_ | refine GL.skipU rfl rfl ?_ | refine GL.valT rfl (rv_convBS Try.underlying22 Try.underlying5 Try.underlying9 rfl (fun w h => h.rd0n hk2) rfl) rfl ?_ | refine GL.valG rfl (fun hb => rv_convBS Try.underlying22 Try.underlying5 Try.underlying9 (by first | exact evb rfl hb | rfl) (fun w h => h.rd0n hk2) (by first | exact evb rfl hb | rfl)) rfl ?_
      first | refine GL.skipG rfl rfl ?_ | refine GL.skipU rfl rfl ?_ | refine GL.valT rfl (rv_to (v' := .bool (decide (key = key2))) (rv_eqS rfl rfl) (by rw [show decide (key = key2) = decide ((⟨key.toArray⟩ : ByteArray) = ⟨key2.toArray⟩) from decide_eq_decide.2 ba_inj.symm])) rfl ?_ | refine GL.valG rfl (fun hb => rv_to (v' := .bool (decide (key = key2))) (rv_eqS (by first | exact evb rfl hb | rfl) (by first | exact evb rfl hb | rfl)) (by rw [show decide (key = key2) = decide ((⟨key.toArray⟩ : ByteArray) = ⟨key2.toArray⟩) from decide_eq_decide.2 ba_inj.symm])) rfl ?_
      refine GL.val ((by first | exact rv_andT rfl rfl rfl | exact rv_andF rfl rfl rfl | exact rv_pickAnd rfl rfl rfl)) rfl ?_
      refine GL.val (rv_assign rfl) rfl ?_
      refine GL.nil ?_
      exact GX.cutq () trivial (by repeat (first | exact Sub.nil | refine Sub.cons rfl ?_)) (fun w9 h => by
          exact h)
    · have h1 := h.1
      have h2 := h.2
      rw [show decide (nm = nm2 ∧ ser = ser2 ∧ key = key2) = false from decide_eq_false (fun q => h.2 q.2.1)]
      refine GC.reg ?_
      refine GL.val (rv_field fo_25_0 rfl rfl) rfl ?_
      refine GL.val (rv_load ag_9 rfl (by first | exact Hd.cell (k := 1) rfl rfl | exact Hd.rowCell (k := 1) rfl (by assumption))) rfl ?_
      refine GL.val (rv_field fo_25_0 rfl rfl) rfl ?_
      refine GL.val (rv_load ag_9 rfl (by first | exact Hd.cell (k := 0) rfl rfl | exact Hd.rowCell (k := 0) rfl (by assumption))) rfl ?_
      refine GL.val ((by first | exact rv_to (v' := .bool true) (rv_eqS rfl rfl) (by simp only [Value.bool.injEq, decide_eq_true_eq, decide_eq_false_iff_not]; first | assumption | omega) | exact rv_to (v' := .bool false) (rv_eqS rfl rfl) (by simp only [Value.bool.injEq, decide_eq_true_eq, decide_eq_false_iff_not]; first | assumption | omega))) rfl ?_
      refine GL.val (rv_move rfl) rfl ?_
      first | refine GL.skipG rfl rfl ?_ | refine GL.skipU rfl rfl ?_ | refine GL.valT rfl (rv_field fo_25_2 rfl rfl) rfl ?_ | refine GL.valG rfl (fun hb => rv_field fo_25_2 (by first | exact evb rfl hb | rfl) (by first | exact evb rfl hb | rfl)) rfl ?_
      first | refine GL.skipG rfl rfl ?_ | refine GL.skipU rfl rfl ?_ | refine GL.valT rfl (rv_load ag_23 rfl (by first | exact Hd.cell (k := 1) rfl rfl | exact Hd.rowCell (k := 1) rfl (by assumption))) rfl ?_ | refine GL.valG rfl (fun hb => rv_load ag_23 (by first | exact evb rfl hb | rfl) (by first | exact Hd.cell (k := 1) (by first | exact evb rfl hb | rfl) (by first | exact evb rfl hb | rfl) | exact Hd.rowCell (k := 1) (by first | exact evb rfl hb | rfl) (by assumption))) rfl ?_
      first | refine GL.skipG rfl rfl ?_ | refine GL.skipU rfl rfl ?_ | refine GL.valT rfl (rv_field fo_25_2 rfl rfl) rfl ?_ | refine GL.valG rfl (fun hb => rv_field fo_25_2 (by first | exact evb rfl hb | rfl) (by first | exact evb rfl hb | rfl)) rfl ?_
      first | refine GL.skipG rfl rfl ?_ | refine GL.skipU rfl rfl ?_ | refine GL.valT rfl (rv_load ag_23 rfl (by first | exact Hd.cell (k := 0) rfl rfl | exact Hd.rowCell (k := 0) rfl (by assumption))) rfl ?_ | refine GL.valG rfl (fun hb => rv_load ag_23 (by first | exact evb rfl hb | rfl) (by first | exact Hd.cell (k := 0) (by first | exact evb rfl hb | rfl) (by first | exact evb rfl hb | rfl) | exact Hd.rowCell (k := 0) (by first | exact evb rfl hb | rfl) (by assumption))) rfl ?_
      first | refine GL.skipG rfl rfl ?_ | refine GL.skipU rfl rfl ?_ | refine GL.valT rfl ((by first | exact rv_to (v' := .bool true) (rv_eq64 rfl rfl) (by simp only [Value.bool.injEq, decide_eq_true_eq, decide_eq_false_iff_not]; first | assumption | omega) | exact rv_to (v' := .bool false) (rv_eq64 rfl rfl) (by simp only [Value.bool.injEq, decide_eq_true_eq, decide_eq_false_iff_not]; first | assumption | omega))) rfl ?_ | refine GL.valG rfl (fun hb => (by first | exact rv_to (v' := .bool true) (rv_eq64 (by first | exact evb rfl hb | rfl) (by first | exact evb rfl hb | rfl)) (by simp only [Value.bool.injEq, decide_eq_true_eq, decide_eq_false_iff_not]; first | assumption | omega) | exact rv_to (v' := .bool false) (rv_eq64 (by first | exact evb rfl hb | rfl) (by first | exact evb rfl hb | rfl)) (by simp only [Value.bool.injEq, decide_eq_true_eq, decide_eq_false_iff_not]; first | assumption | omega))) rfl ?_
      refine GL.val ((by first | exact rv_andT rfl rfl rfl | exact rv_andF rfl rfl rfl | exact rv_pickAnd rfl rfl rfl)) rfl ?_
      refine GL.val (rv_move rfl) rfl ?_
      first | refine GL.skipG rfl rfl ?_ | refine GL.skipU rfl rfl ?_ | refine GL.valT rfl (rv_field fo_25_1 rfl rfl) rfl ?_ | refine GL.valG rfl (fun hb => rv_field fo_25_1 (by first | exact evb rfl hb | rfl) (by first | exact evb rfl hb | rfl)) rfl ?_
      first | refine GL.skipG rfl rfl ?_ | refine GL.skipU rfl rfl ?_ | refine GL.valT rfl (rv_load ag_22 rfl (by first | exact Hd.cell (k := 1) rfl rfl | exact Hd.rowCell (k := 1) rfl (by assumption))) rfl ?_ | refine GL.valG rfl (fun hb => rv_load ag_22 (by first | exact evb rfl hb | rfl) (by first | exact Hd.cell (k := 1) (by first | exact evb rfl hb | rfl) (by first | exact evb rfl hb | rfl) | exact Hd.rowCell (k := 1) (by first | exact evb rfl hb | rfl) (by assumption))) rfl ?_
      first | refine GL.skipG rfl rfl ?_ | refine GL.skipU rfl rfl ?_ | refine GL.valT rfl (rv_convBS Try.underlying22 Try.underlying5 Try.underlying9 rfl (fun w h => h.rd0n hk) rfl) rfl ?_ | refine GL.valG rfl (fun hb => rv_convBS Try.underlying22 Try.underlying5 Try.underlying9 (by first | exact evb rfl hb | rfl) (fun w h => h.rd0n hk) (by first | exact evb rfl hb | rfl)) rfl ?_
      first | refine GL.skipG rfl rfl ?_ | refine GL.skipU rfl rfl ?_ | refine GL.valT rfl (rv_field fo_25_1 rfl rfl) rfl ?_ | refine GL.valG rfl (fun hb => rv_field fo_25_1 (by first | exact evb rfl hb | rfl) (by first | exact evb rfl hb | rfl)) rfl ?_
      first | refine GL.skipG rfl rfl ?_ | refine GL.skipU rfl rfl ?_ | refine GL.valT rfl (rv_load ag_22 rfl (by first | exact Hd.cell (k := 0) rfl rfl | exact Hd.rowCell (k := 0) rfl (by assumption))) rfl ?_ | refine GL.valG rfl (fun hb => rv_load ag_22 (by first | exact evb rfl hb | rfl) (by first | exact Hd.cell (k := 0) (by first | exact evb rfl hb | rfl) (by first | exact evb rfl hb | rfl) | exact Hd.rowCell (k := 0) (by first | exact evb rfl hb | rfl) (by assumption))) rfl ?_
      first | refine GL.skipG rfl rfl ?_ | refine GL.skipU rfl rfl ?_ | refine GL.valT rfl (rv_convBS Try.underlying22 Try.underlying5 Try.underlying9 rfl (fun w h => h.rd0n hk2) rfl) rfl ?_ | refine GL.valG rfl (fun hb => rv_convBS Try.underlying22 Try.underlying5 Try.underlying9 (by first | exact evb rfl hb | rfl) (fun w h => h.rd0n hk2) (by first | exact evb rfl hb | rfl)) rfl ?_
      first | refine GL.skipG rfl rfl ?_ | refine GL.skipU rfl rfl ?_ | refine GL.valT rfl (rv_to (v' := .bool (decide (key = key2))) (rv_eqS rfl rfl) (by rw [show decide (key = key2) = decide ((⟨key.toArray⟩ : ByteArray) = ⟨key2.toArray⟩) from decide_eq_decide.2 ba_inj.symm])) rfl ?_ | refine GL.valG rfl (fun hb => rv_to (v' := .bool (decide (key = key2))) (rv_eqS (by first | exact evb rfl hb | rfl) (by first | exact evb rfl hb | rfl)) (by rw [show decide (key = key2) = decide ((⟨key.toArray⟩ : ByteArray) = ⟨key2.toArray⟩) from decide_eq_decide.2 ba_inj.symm])) rfl ?_
      refine GL.val ((by first | exact rv_andT rfl rfl rfl | exact rv_andF rfl rfl rfl | exact rv_pickAnd rfl rfl rfl)) rfl ?_
      refine GL.val (rv_assign rfl) rfl ?_
      refine GL.nil ?_
      exact GX.cutq () trivial (by repeat (first | exact Sub.nil | refine Sub.cons rfl ?_)) (fun w9 h => by
          exact h)
    · have h1 := h.1
      have h2 := h.2
      rw [show decide (nm = nm2 ∧ ser = ser2 ∧ key = key2) = decide (key = key2) from decide_eq_decide.2 ⟨fun q => q.2.2, fun q => ⟨h1, h2, q⟩⟩]
      refine GC.reg ?_
      refine GL.val (rv_field fo_25_0 rfl rfl) rfl ?_
      refine GL.val (rv_load ag_9 rfl (by first | exact Hd.cell (k := 1) rfl rfl | exact Hd.rowCell (k := 1) rfl (by assumption))) rfl ?_
      refine GL.val (rv_field fo_25_0 rfl rfl) rfl ?_
      refine GL.val (rv_load ag_9 rfl (by first | exact Hd.cell (k := 0) rfl rfl | exact Hd.rowCell (k := 0) rfl (by assumption))) rfl ?_
      refine GL.val ((by first | exact rv_to (v' := .bool true) (rv_eqS rfl rfl) (by simp only [Value.bool.injEq, decide_eq_true_eq, decide_eq_false_iff_not]; first | assumption | omega) | exact rv_to (v' := .bool false) (rv_eqS rfl rfl) (by simp only [Value.bool.injEq, decide_eq_true_eq, decide_eq_false_iff_not]; first | assumption | omega))) rfl ?_
      refine GL.val (rv_move rfl) rfl ?_
      first | refine GL.skipG rfl rfl ?_ | refine GL.skipU rfl rfl ?_ | refine GL.valT rfl (rv_field fo_25_2 rfl rfl) rfl ?_ | refine GL.valG rfl (fun hb => rv_field fo_25_2 (by first | exact evb rfl hb | rfl) (by first | exact evb rfl hb | rfl)) rfl ?_
      first | refine GL.skipG rfl rfl ?_ | refine GL.skipU rfl rfl ?_ | refine GL.valT rfl (rv_load ag_23 rfl (by first | exact Hd.cell (k := 1) rfl rfl | exact Hd.rowCell (k := 1) rfl (by assumption))) rfl ?_ | refine GL.valG rfl (fun hb => rv_load ag_23 (by first | exact evb rfl hb | rfl) (by first | exact Hd.cell (k := 1) (by first | exact evb rfl hb | rfl) (by first | exact evb rfl hb | rfl) | exact Hd.rowCell (k := 1) (by first | exact evb rfl hb | rfl) (by assumption))) rfl ?_
      first | refine GL.skipG rfl rfl ?_ | refine GL.skipU rfl rfl ?_ | refine GL.valT rfl (rv_field fo_25_2 rfl rfl) rfl ?_ | refine GL.valG rfl (fun hb => rv_field fo_25_2 (by first | exact evb rfl hb | rfl) (by first | exact evb rfl hb | rfl)) rfl ?_
      first | refine GL.skipG rfl rfl ?_ | refine GL.skipU rfl rfl ?_ | refine GL.valT rfl (rv_load ag_23 rfl (by first | exact Hd.cell (k := 0) rfl rfl | exact Hd.rowCell (k := 0) rfl (by assumption))) rfl ?_ | refine GL.valG rfl (fun hb => rv_load ag_23 (by first | exact evb rfl hb | rfl) (by first | exact Hd.cell (k := 0) (by first | exact evb rfl hb | rfl) (by first | exact evb rfl hb | rfl) | exact Hd.rowCell (k := 0) (by first | exact evb rfl hb | rfl) (by assumption))) rfl ?_
      first | refine GL.skipG rfl rfl ?_ | refine GL.skipU rfl rfl ?_ | refine GL.valT rfl ((by first | exact rv_to (v' := .bool true) (rv_eq64 rfl rfl) (by simp only [Value.bool.injEq, decide_eq_true_eq, decide_eq_false_iff_not]; first | assumption | omega) | exact rv_to (v' := .bool false) (rv_eq64 rfl rfl) (by simp only [Value.bool.injEq, decide_eq_true_eq, decide_eq_false_iff_not]; first | assumption | omega))) rfl ?_ | refine GL.valG rfl (fun hb => (by first | exact rv_to (v' := .bool true) (rv_eq64 (by first | exact evb rfl hb | rfl) (by first | exact evb rfl hb | rfl)) (by simp only [Value.bool.injEq, decide_eq_true_eq, decide_eq_false_iff_not]; first | assumption | omega) | exact rv_to (v' := .bool false) (rv_eq64 (by first | exact evb rfl hb | rfl) (by first | exact evb rfl hb | rfl)) (by simp only [Value.bool.injEq, decide_eq_true_eq, decide_eq_false_iff_not]; first | assumption | omega))) rfl ?_
      refine GL.val ((by first | exact rv_andT rfl rfl rfl | exact rv_andF rfl rfl rfl | exact rv_pickAnd rfl rfl rfl)) rfl ?_
      refine GL.val (rv_move rfl) rfl ?_
      first | refine GL.skipG rfl rfl ?_ | refine GL.skipU rfl rfl ?_ | refine GL.valT rfl (rv_field fo_25_1 rfl rfl) rfl ?_ | refine GL.valG rfl (fun hb => rv_field fo_25_1 (by first | exact evb rfl hb | rfl) (by first | exact evb rfl hb | rfl)) rfl ?_
      first | refine GL.skipG rfl rfl ?_ | refine GL.skipU rfl rfl ?_ | refine GL.valT rfl (rv_load ag_22 rfl (by first | exact Hd.cell (k := 1) rfl rfl | exact Hd.rowCell (k := 1) rfl (by assumption))) rfl ?_ | refine GL.valG rfl (fun hb => rv_load ag_22 (by first | exact evb rfl hb | rfl) (by first | exact Hd.cell (k := 1) (by first | exact evb rfl hb | rfl) (by first | exact evb rfl hb | rfl) | exact Hd.rowCell (k := 1) (by first | exact evb rfl hb | rfl) (by assumption))) rfl ?_
      first | refine GL.skipG rfl rfl ?_ | refine GL.skipU rfl rfl ?_ | refine GL.valT rfl (rv_convBS Try.underlying22 Try.underlying5 Try.underlying9 rfl (fun w h => h.rd0n hk) rfl) rfl ?_ | refine GL.valG rfl (fun hb => rv_convBS Try.underlying22 Try.underlying5 Try.underlying9 (by first | exact evb rfl hb | rfl) (fun w h => h.rd0n hk) (by first | exact evb rfl hb | rfl)) rfl ?_
      first | refine GL.skipG rfl rfl ?_ | refine GL.skipU rfl rfl ?_ | refine GL.valT rfl (rv_field fo_25_1 rfl rfl) rfl ?_ | refine GL.valG rfl (fun hb => rv_field fo_25_1 (by first | exact evb rfl hb | rfl) (by first | exact evb rfl hb | rfl)) rfl ?_
      first | refine GL.skipG rfl rfl ?_ | refine GL.skipU rfl rfl ?_ | refine GL.valT rfl (rv_load ag_22 rfl (by first | exact Hd.cell (k := 0) rfl rfl | exact Hd.rowCell (k := 0) rfl (by assumption))) rfl ?_ | refine GL.valG rfl (fun hb => rv_load ag_22 (by first | exact evb rfl hb | rfl) (by first | exact Hd.cell (k := 0) (by first | exact evb rfl hb | rfl) (by first | exact evb rfl hb | rfl) | exact Hd.rowCell (k := 0) (by first | exact evb rfl hb | rfl) (by assumption))) rfl ?_
      first | refine GL.skipG rfl rfl ?_ | refine GL.skipU rfl rfl ?_ | refine GL.valT rfl (rv_convBS Try.underlying22 Try.underlying5 Try.underlying9 rfl (fun w h => h.rd0n hk2) rfl) rfl ?_ | refine GL.valG rfl (fun hb => rv_convBS Try.underlying22 Try.underlying5 Try.underlying9 (by first | exact evb rfl hb | rfl) (fun w h => h.rd0n hk2) (by first | exact evb rfl hb | rfl)) rfl ?_
      first | refine GL.skipG rfl rfl ?_ | refine GL.skipU rfl rfl ?_ | refine GL.valT rfl (rv_to (v' := .bool (decide (key = key2))) (rv_eqS rfl rfl) (by rw [show decide (key = key2) = decide ((⟨key.toArray⟩ : ByteArray) = ⟨key2.toArray⟩) from decide_eq_decide.2 ba_inj.symm])) rfl ?_ | refine GL.valG rfl (fun hb => rv_to (v' := .bool (decide (key = key2))) (rv_eqS (by first | exact evb rfl hb | rfl) (by first | exact evb rfl hb | rfl)) (by rw [show decide (key = key2) = decide ((⟨key.toArray⟩ : ByteArray) = ⟨key2.toArray⟩) from decide_eq_decide.2 ba_inj.symm])) rfl ?_
      refine GL.val ((by first | exact rv_andT rfl rfl rfl | exact rv_andF rfl rfl rfl | exact rv_pickAnd rfl rfl rfl)) rfl ?_
      refine GL.val (rv_assign rfl) rfl ?_
      refine GL.nil ?_
      exact GX.cutq () trivial (by repeat (first | exact Sub.nil | refine Sub.cons rfl ?_)) (fun w9 h => by
          exact h)
  refine GX.then ?_
  refine GC.ret ?_
  refine GX.ret1 rfl (RR.tmp rfl) ?_
  exact fun w9 h => ⟨(), rfl, by
      have h := h.sel [] rfl rfl
      exact h, trivial⟩
end Go.Proofs.Ytiiofagddljgdaa
