import Derived.Test.YtaocclmdlpnjbaaJ
import Derived.MapKept
set_option linter.unusedVariables false
set_option linter.unusedSimpArgs false
namespace Go.Proofs.Ytaocclmdlpnjbaa
open Go Go.RowKit Go.Bz
theorem as_62 : arrSz Try.prog 62 = some (2, 1) := by kernel_rfl
theorem sz_62 : (Try.prog.info? 62).map (·.size) = some 2 := by kernel_rfl
theorem zb_62 : zeroB Try.prog 62 = some (.agg #[.int .i64 0, .int .i64 0]) := by kernel_rfl
/-! a map that is made of known keys -/
variable {X : Cx} {L : List (Nat × Value)} {Fs : List Pc} {C : List (Nat × Value) → List Pc → Prop} {gd : Option (Nat × Bool)} {ty : TypeId} {x y i : Operand} {pos : String} {af : Array Edge}
def mapP (r : Nat) (es : List MapEntry) (clock : Nat) : Pc := .gen (fun S w => (∀ q, S q ↔ q = r) ∧ w.heap[r]? = some (.map es.toArray clock)) (fun ⟨h1, h2⟩ k => ⟨h1, by rw [k r ((h1 r).2 rfl)]; exact h2⟩)
theorem ot_makeMap {d t : Nat} (hd : Nat.ble (d + 1) X.n = true) (h : ∀ r, C ((d, .map (some r)) :: L) (mapP r [] 0 :: Fs)) : OT X ⟨some d, .makeMap t none, ty, pos, af, gd⟩ L Fs C :=
  ot_eff (γ := Nat) (Φ := fun _ => True) (v := fun r => .map (some r)) (H := fun r => mapP r [] 0 :: Fs) (fun w a hs hf => by
    refine ⟨w.heap.size, w.alloc (.map #[] 0), rfl, hs.push (.alloc w _) (S := fun q => q = w.heap.size) ⟨fun _ => Iff.rfl, heap_new w _⟩ fun b hb => by subst hb; simp, trivial⟩) hd fun r _ => h r
theorem run_ck {P : Program} {w : World} {kt : TypeId} {q : IntKind} {z : Int} (hkt : P.underlying kt = some (.int q)) (e : Bool) : (Instr.checkKey e 10000 kt (.int q z)).run P w = .ok () w := by
  rw [show 10000 = 9999 + 1 from rfl]
  unfold Instr.checkKey
  simp only [Sem.run_bind, run_underlying hkt, Result.andThen_ok]
  rfl
theorem run_fk {P : Program} {w : World} {kt : TypeId} {q : IntKind} {z : Int} {es : List MapEntry} {o : Option (Nat × Value)} (hkt : P.underlying kt = some (.int q)) (hf : Instr.findNow (.int q) (.int q z) es 0 = some o) : (Instr.findKey kt (.int q z) es).run P w = .ok o w := by
  unfold Instr.findKey
  simp only [Sem.run_bind, run_underlying hkt, Result.andThen_ok, hf]
  rfl
theorem ot_insert {k t kt et r clock : Nat} {q : IntKind} {z : Int} {val : Value} {es : List MapEntry} {m key xv : Operand} (ht : X.P.underlying t = some (.map kt et)) (hkt : X.P.underlying kt = some (.int q)) (em : ev L m = some (.map (some r))) (ek : ev L key = some (.int q z)) (ex : ev L xv = some val)
    (hk : Fs[k]? = some (mapP r es clock)) (hf : Instr.findNow (.int q) (.int q z) es 0 = some none) (h : C L (Fs.set k (mapP r (es ++ [{ key := .int q z, val := val, born := clock }]) (clock + 1)))) : OT X ⟨none, .insert t m key xv, ty, pos, af, gd⟩ L Fs C :=
  ot_eff0 (fun w a hs hfr => by
    obtain ⟨S, hA, hSb⟩ := hs.get hk
    have hb : w.heap[r]? = some (.map es.toArray clock) := hA.2
    have h1 : (getObj r).run X.P w = .ok (.map es.toArray clock) w := by simp [getObj, Sem.run, hb]
    have h2 : ∀ o, (setObj r o).run X.P w = .ok () { w with heap := w.heap.setIfInBounds r o } := fun o => by simp [setObj, Sem.run, hb]
    have hrun : (Instr.mapUpdate t (.map (some r)) (.int q z) val).run X.P w = .ok () { w with heap := w.heap.setIfInBounds r (.map (es.toArray.push { key := .int q z, val := val, born := clock }) (clock + 1)) } := by
      unfold Instr.mapUpdate
      simp only [Sem.run_bind, run_underlying ht, Result.andThen_ok, h1, run_ck hkt, run_fk hkt hf, h2]
    refine ⟨{ w with heap := w.heap.setIfInBounds r (.map (es.toArray.push { key := .int q z, val := val, born := clock }) (clock + 1)) }, ?_, hs.upd1 hk fun S hA hbb => ⟨S, ⟨hA.1, ?_⟩, ⟨rfl, rfl, rfl, by simp, fun j _ hn => ?_⟩, fun b hb => .inl hb⟩⟩
    · simp only [execOp, hfr.ev em, hfr.ev ek, hfr.ev ex, Sem.run_bind, hrun, Result.andThen_ok, Sem.run_pure]
    · have hlt : r < w.heap.size := hbb r ((hA.1 r).2 rfl)
      simp [hlt]
    · have hne : r ≠ j := fun e => hn ((hA.1 j).2 e.symm)
      simp [hne]) h
theorem rv_lookup {K : Nat → Prop} {w0 : World} {n k t kt et r clock : Nat} {P : Program} {q : IntKind} {z : Int} {es : List MapEntry} {m key : Operand} {o : Option (Nat × Value)} {zv : Value} {v : Value} {ok : Bool} (ht : P.underlying t = some (.map kt et)) (hkt : P.underlying kt = some (.int q)) (em : ev L m = some (.map (some r))) (ek : ev L key = some (.int q z))
    (hk : Fs[k]? = some (mapP r es clock)) (hz : zeroB P et = some zv) (hf : Instr.findNow (.int q) (.int q z) es 0 = some o) (ho : (match o with | some (_, u) => (u, true) | none => (zv, false)) = (v, ok)) : RV P K w0 n L Fs (.lookup t m key true) ty (.tuple #[v, .bool ok]) := fun w a hs hfr d pos af g => by
  obtain ⟨S, hA⟩ := hs.all _ _ hk
  have hb : w.heap[r]? = some (.map es.toArray clock) := hA.2
  have h1 : (getObj r).run P w = .ok (.map es.toArray clock) w := by simp [getObj, Sem.run, hb]
  have h2 := run_zero (P := P) hz w
  have hl : (Instr.lookup t (.map (some r)) (.int q z) true).run P w = .ok (.tuple #[v, .bool ok]) w := by
    unfold Instr.lookup
    simp only [Sem.run_bind, run_underlying ht, Result.andThen_ok, h1, Sem.run_pure, run_ck hkt, run_fk hkt hf]
    cases o with
    | none =>
      simp only [Prod.mk.injEq] at ho
      obtain ⟨rfl, rfl⟩ := ho
      simp only [Sem.run_bind, h2, Result.andThen_ok, Sem.run_pure, if_true]
    | some p =>
      simp only [Prod.mk.injEq] at ho
      obtain ⟨rfl, rfl⟩ := ho
      simp only [Sem.run_pure, Result.andThen_ok, if_true]
      rfl
  simp only [execOp, hfr.ev em, hfr.ev ek, Sem.run_bind, hl, Result.andThen_ok, Sem.run_pure]
def kind : Sh.B → UInt8
  | [] => 0
  | c :: r => if (c = 69 ∧ r.length = 0) ∨ ((c = 76 ∨ c = 78) ∧ r.length = 64) ∨ (c = 82 ∧ r.length = 104) ∨ (c = 86 ∧ 48 ≤ r.length ∧ r.length ≤ 1073741823) then c else 0
theorem kind_if (c : UInt8) (r : Sh.B) (p : Prop) [Decidable p] (h : ((c = 69 ∧ r.length = 0) ∨ ((c = 76 ∨ c = 78) ∧ r.length = 64) ∨ (c = 82 ∧ r.length = 104) ∨ (c = 86 ∧ 48 ≤ r.length ∧ r.length ≤ 1073741823)) ↔ p) : kind (c :: r) = if decide p = true then c else 0 := by
  rw [kind]
  by_cases hp : p
  · rw [if_pos (h.2 hp), if_pos (decide_eq_true hp)]
  · rw [if_neg (fun q => hp (h.1 q)), if_neg (by simp [hp])]
set_option maxRecDepth 100000 in
set_option maxHeartbeats 1000000 in
theorem kind_69 (b o n c : Nat) (bs : Sh.B) (w : World) (hC : Cells w b o (byts bs)) (hl : bs.length = n) (hn : n < 4611686018427387904) (h1 : bs.getD 0 0 = 69) (h0 : 0 < n) : Calls Try.prog 27 [.slice (some ⟨b, o, none⟩) n c].toArray w fun e w' => ∃ _g : Unit, e = .returned (v8 (kind bs)) ∧ St noB w w' [] ∧ True := by
  refine GC.calls Try.func27 rfl rfl (St.begin _) ?_
  obtain ⟨c0, r, rfl⟩ : ∃ c0 r, bs = c0 :: r := by cases bs with | nil => simp at hl; omega | cons c0 r => exact ⟨c0, r, rfl⟩
  rw [List.length_cons] at hl
  simp only [List.getD_cons_zero] at h1
  subst h1
  have hk1 : 1 ≤ n ∧ n ≤ 1 → kind (69 :: r) = 69 := fun h => by rw [kind, if_pos (.inl ⟨rfl, by omega⟩)]
  have hk0 : ¬ (1 ≤ n ∧ n ≤ 1) → kind (69 :: r) = 0 := fun h => by rw [kind, if_neg (fun q => by rcases q with ⟨e, q⟩ | ⟨e, q⟩ | ⟨e, q⟩ | ⟨e, q1, q2⟩ <;> first | omega | exact absurd e (by decide))]
  refine GC.seq ?_
  refine GC.reg ?_
  refine GL.val (rv_assign rfl) rfl ?_
  refine GL.nil ?_
  refine GX.then ?_
  refine GC.seq ?_
  refine GC.reg ?_
  refine GL.step (ot_makeMap rfl fun r6 => ?_)
  refine GL.val (rv_buildA as_62 zb_62 rfl rfl rfl rfl) rfl ?_
  refine GL.step (ot_insert (k := 0) Try.underlying63 Try.underlying5 rfl rfl rfl rfl (by rfl) ?_)
  refine GL.val (rv_buildA as_62 zb_62 rfl rfl rfl rfl) rfl ?_
  refine GL.step (ot_insert (k := 0) Try.underlying63 Try.underlying5 rfl rfl rfl rfl (by rfl) ?_)
  refine GL.val (rv_buildA as_62 zb_62 rfl rfl rfl rfl) rfl ?_
  refine GL.step (ot_insert (k := 0) Try.underlying63 Try.underlying5 rfl rfl rfl rfl (by rfl) ?_)
  refine GL.val (rv_buildA as_62 zb_62 rfl rfl rfl rfl) rfl ?_
  refine GL.step (ot_insert (k := 0) Try.underlying63 Try.underlying5 rfl rfl rfl rfl (by rfl) ?_)
  refine GL.val (rv_buildA as_62 zb_62 rfl rfl rfl rfl) rfl ?_
  refine GL.step (ot_insert (k := 0) Try.underlying63 Try.underlying5 rfl rfl rfl rfl (by rfl) ?_)
  refine GL.val (rv_move rfl) rfl ?_
  refine GL.val (rv_assign rfl) rfl ?_
  refine GL.nil ?_
  refine GX.then ?_
  refine GC.seq ?_
  refine GC.seq ?_
  refine GC.reg ?_
  refine GL.val (rv_move rfl) rfl ?_
  refine GL.val (rv_lenSl Try.underlying28 rfl) rfl ?_
  refine GL.val (rv_eqI rfl rfl) rfl ?_
  refine GL.nil ?_
  refine GX.then ?_
  first | refine GC.condP rfl (fun c15 => ?_) (fun c15 => ?_) | refine GC.cond rfl (fun c15 => ?_) (fun c15 => ?_)
  · exact absurd c15 (by omega)
  · refine GC.skip ?_
    refine GX.then ?_
    refine GC.seq ?_
    refine GC.seq ?_
    refine GC.reg ?_
    refine GL.val (rv_move rfl) rfl ?_
    refine GL.val (rv_move rfl) rfl ?_
    refine GL.val (rv_elem es_28 rfl rfl (by omega) (by omega)) rfl ?_
    refine GL.val (rv_load ag_5 rfl (Hd.cell0 (Sh.byC hC (j := 0) (by simp)) (fun h => h))) rfl ?_
    refine GL.val (rv_lookup (k := 0) (z := 69) Try.underlying63 Try.underlying5 rfl rfl rfl zb_62 rfl rfl) rfl ?_
    refine GL.val (rv_move rfl) rfl ?_
    refine GL.val (rv_extract rfl rfl) rfl ?_
    refine GL.val (rv_extract rfl rfl) rfl ?_
    refine GL.step (ot_alloc (zs := [.int .i64 0, .int .i64 0]) zb_62 rfl rfl fun b4 => ?_)
    refine GL.step (ot_storeA (k := 0) rfl rfl rfl rfl (by exact sz_62) (by first | (fail) | rfl) (by first | (fail) | rfl) (by rfl) ?_)
    refine GL.val (rv_assign rfl) rfl ?_
    refine GL.nil ?_
    refine GX.then ?_
    refine GC.seq ?_
    refine GC.cutq (γ := Unit) [0] [1, 0] (fun g Lk => (38, .bool (decide (1 ≤ n ∧ n ≤ 1))) :: Lk) (fun g Fk => Fk) (fun g => True) rfl rfl ?_ (fun _ _ => ?_)
    · rcases (by omega : (1 ≤ n ∧ 1 < n) ∨ (1 ≤ n ∧ n ≤ 1)) with h | h
      · rw [show decide (1 ≤ n ∧ n ≤ 1) = false from decide_eq_false (by omega)]
        refine GC.reg ?_
        refine GL.val (rv_move rfl) rfl ?_
        refine GL.val (rv_move rfl) rfl ?_
        first | refine GL.skipG rfl rfl ?_ | refine GL.skipU rfl rfl ?_ | refine GL.valT rfl (rv_move rfl) rfl ?_ | refine GL.valG rfl (fun hb => rv_move (by first | exact evb rfl hb | rfl)) rfl ?_
        first | refine GL.skipG rfl rfl ?_ | refine GL.skipU rfl rfl ?_ | refine GL.valT rfl (rv_lenSl Try.underlying28 rfl) rfl ?_ | refine GL.valG rfl (fun hb => rv_lenSl Try.underlying28 (by first | exact evb rfl hb | rfl)) rfl ?_
        first | refine GL.skipG rfl rfl ?_ | refine GL.skipU rfl rfl ?_ | refine GL.valT rfl (rv_elemAJ (q := 0) (0) as_62 rfl rfl (by first | rfl | omega) (by omega) (by first | rfl | omega)) rfl ?_ | refine GL.valG rfl (fun hb => rv_elemAJ (q := 0) (0) as_62 (by first | exact evb rfl hb | rfl) (by first | exact evb rfl hb | rfl) (by first | rfl | omega) (by omega) (by first | rfl | omega)) rfl ?_
        first | refine GL.skipG rfl rfl ?_ | refine GL.skipU rfl rfl ?_ | refine GL.valT rfl (rv_load ag_3 rfl (by first | exact Hd.cell (k := 0) rfl rfl | exact Hd.rowCell (k := 0) rfl (by assumption))) rfl ?_ | refine GL.valG rfl (fun hb => rv_load ag_3 (by first | exact evb rfl hb | rfl) (by first | exact Hd.cell (k := 0) (by first | exact evb rfl hb | rfl) (by first | exact evb rfl hb | rfl) | exact Hd.rowCell (k := 0) (by first | exact evb rfl hb | rfl) (by assumption))) rfl ?_
        first | refine GL.skipG rfl rfl ?_ | refine GL.skipU rfl rfl ?_ | refine GL.valT rfl ((by first | exact rv_to (v' := .bool true) (rv_geq rfl rfl) (by simp only [Value.bool.injEq, decide_eq_true_eq, decide_eq_false_iff_not]; first | assumption | omega) | exact rv_to (v' := .bool false) (rv_geq rfl rfl) (by simp only [Value.bool.injEq, decide_eq_true_eq, decide_eq_false_iff_not]; first | assumption | omega))) rfl ?_ | refine GL.valG rfl (fun hb => (by first | exact rv_to (v' := .bool true) (rv_geq (by first | exact evb rfl hb | rfl) (by first | exact evb rfl hb | rfl)) (by simp only [Value.bool.injEq, decide_eq_true_eq, decide_eq_false_iff_not]; first | assumption | omega) | exact rv_to (v' := .bool false) (rv_geq (by first | exact evb rfl hb | rfl) (by first | exact evb rfl hb | rfl)) (by simp only [Value.bool.injEq, decide_eq_true_eq, decide_eq_false_iff_not]; first | assumption | omega))) rfl ?_
        refine GL.val ((by first | exact rv_andT rfl rfl rfl | exact rv_andF rfl rfl rfl | exact rv_pickAnd rfl rfl rfl)) rfl ?_
        refine GL.val (rv_move rfl) rfl ?_
        first | refine GL.skipG rfl rfl ?_ | refine GL.skipU rfl rfl ?_ | refine GL.valT rfl (rv_move rfl) rfl ?_ | refine GL.valG rfl (fun hb => rv_move (by first | exact evb rfl hb | rfl)) rfl ?_
        first | refine GL.skipG rfl rfl ?_ | refine GL.skipU rfl rfl ?_ | refine GL.valT rfl (rv_lenSl Try.underlying28 rfl) rfl ?_ | refine GL.valG rfl (fun hb => rv_lenSl Try.underlying28 (by first | exact evb rfl hb | rfl)) rfl ?_
        first | refine GL.skipG rfl rfl ?_ | refine GL.skipU rfl rfl ?_ | refine GL.valT rfl (rv_elemAJ (q := 1) (1) as_62 rfl rfl (by first | rfl | omega) (by omega) (by first | rfl | omega)) rfl ?_ | refine GL.valG rfl (fun hb => rv_elemAJ (q := 1) (1) as_62 (by first | exact evb rfl hb | rfl) (by first | exact evb rfl hb | rfl) (by first | rfl | omega) (by omega) (by first | rfl | omega)) rfl ?_
        first | refine GL.skipG rfl rfl ?_ | refine GL.skipU rfl rfl ?_ | refine GL.valT rfl (rv_load ag_3 rfl (by first | exact Hd.cell (k := 0) rfl rfl | exact Hd.rowCell (k := 0) rfl (by assumption))) rfl ?_ | refine GL.valG rfl (fun hb => rv_load ag_3 (by first | exact evb rfl hb | rfl) (by first | exact Hd.cell (k := 0) (by first | exact evb rfl hb | rfl) (by first | exact evb rfl hb | rfl) | exact Hd.rowCell (k := 0) (by first | exact evb rfl hb | rfl) (by assumption))) rfl ?_
        first | refine GL.skipG rfl rfl ?_ | refine GL.skipU rfl rfl ?_ | refine GL.valT rfl ((by first | exact rv_to (v' := .bool true) (rv_leq rfl rfl) (by simp only [Value.bool.injEq, decide_eq_true_eq, decide_eq_false_iff_not]; first | assumption | omega) | exact rv_to (v' := .bool false) (rv_leq rfl rfl) (by simp only [Value.bool.injEq, decide_eq_true_eq, decide_eq_false_iff_not]; first | assumption | omega))) rfl ?_ | refine GL.valG rfl (fun hb => (by first | exact rv_to (v' := .bool true) (rv_leq (by first | exact evb rfl hb | rfl) (by first | exact evb rfl hb | rfl)) (by simp only [Value.bool.injEq, decide_eq_true_eq, decide_eq_false_iff_not]; first | assumption | omega) | exact rv_to (v' := .bool false) (rv_leq (by first | exact evb rfl hb | rfl) (by first | exact evb rfl hb | rfl)) (by simp only [Value.bool.injEq, decide_eq_true_eq, decide_eq_false_iff_not]; first | assumption | omega))) rfl ?_
        refine GL.val ((by first | exact rv_andT rfl rfl rfl | exact rv_andF rfl rfl rfl | exact rv_pickAnd rfl rfl rfl)) rfl ?_
        refine GL.nil ?_
        exact GX.cutq () trivial (by repeat (first | exact Sub.nil | refine Sub.cons rfl ?_)) (fun w9 h => by
            exact h)
      · rw [show decide (1 ≤ n ∧ n ≤ 1) = true from decide_eq_true (by omega)]
        refine GC.reg ?_
        refine GL.val (rv_move rfl) rfl ?_
        refine GL.val (rv_move rfl) rfl ?_
        first | refine GL.skipG rfl rfl ?_ | refine GL.skipU rfl rfl ?_ | refine GL.valT rfl (rv_move rfl) rfl ?_ | refine GL.valG rfl (fun hb => rv_move (by first | exact evb rfl hb | rfl)) rfl ?_
        first | refine GL.skipG rfl rfl ?_ | refine GL.skipU rfl rfl ?_ | refine GL.valT rfl (rv_lenSl Try.underlying28 rfl) rfl ?_ | refine GL.valG rfl (fun hb => rv_lenSl Try.underlying28 (by first | exact evb rfl hb | rfl)) rfl ?_
        first | refine GL.skipG rfl rfl ?_ | refine GL.skipU rfl rfl ?_ | refine GL.valT rfl (rv_elemAJ (q := 0) (0) as_62 rfl rfl (by first | rfl | omega) (by omega) (by first | rfl | omega)) rfl ?_ | refine GL.valG rfl (fun hb => rv_elemAJ (q := 0) (0) as_62 (by first | exact evb rfl hb | rfl) (by first | exact evb rfl hb | rfl) (by first | rfl | omega) (by omega) (by first | rfl | omega)) rfl ?_
        first | refine GL.skipG rfl rfl ?_ | refine GL.skipU rfl rfl ?_ | refine GL.valT rfl (rv_load ag_3 rfl (by first | exact Hd.cell (k := 0) rfl rfl | exact Hd.rowCell (k := 0) rfl (by assumption))) rfl ?_ | refine GL.valG rfl (fun hb => rv_load ag_3 (by first | exact evb rfl hb | rfl) (by first | exact Hd.cell (k := 0) (by first | exact evb rfl hb | rfl) (by first | exact evb rfl hb | rfl) | exact Hd.rowCell (k := 0) (by first | exact evb rfl hb | rfl) (by assumption))) rfl ?_
        first | refine GL.skipG rfl rfl ?_ | refine GL.skipU rfl rfl ?_ | refine GL.valT rfl ((by first | exact rv_to (v' := .bool true) (rv_geq rfl rfl) (by simp only [Value.bool.injEq, decide_eq_true_eq, decide_eq_false_iff_not]; first | assumption | omega) | exact rv_to (v' := .bool false) (rv_geq rfl rfl) (by simp only [Value.bool.injEq, decide_eq_true_eq, decide_eq_false_iff_not]; first | assumption | omega))) rfl ?_ | refine GL.valG rfl (fun hb => (by first | exact rv_to (v' := .bool true) (rv_geq (by first | exact evb rfl hb | rfl) (by first | exact evb rfl hb | rfl)) (by simp only [Value.bool.injEq, decide_eq_true_eq, decide_eq_false_iff_not]; first | assumption | omega) | exact rv_to (v' := .bool false) (rv_geq (by first | exact evb rfl hb | rfl) (by first | exact evb rfl hb | rfl)) (by simp only [Value.bool.injEq, decide_eq_true_eq, decide_eq_false_iff_not]; first | assumption | omega))) rfl ?_
        refine GL.val ((by first | exact rv_andT rfl rfl rfl | exact rv_andF rfl rfl rfl | exact rv_pickAnd rfl rfl rfl)) rfl ?_
        refine GL.val (rv_move rfl) rfl ?_
        first | refine GL.skipG rfl rfl ?_ | refine GL.skipU rfl rfl ?_ | refine GL.valT rfl (rv_move rfl) rfl ?_ | refine GL.valG rfl (fun hb => rv_move (by first | exact evb rfl hb | rfl)) rfl ?_
        first | refine GL.skipG rfl rfl ?_ | refine GL.skipU rfl rfl ?_ | refine GL.valT rfl (rv_lenSl Try.underlying28 rfl) rfl ?_ | refine GL.valG rfl (fun hb => rv_lenSl Try.underlying28 (by first | exact evb rfl hb | rfl)) rfl ?_
        first | refine GL.skipG rfl rfl ?_ | refine GL.skipU rfl rfl ?_ | refine GL.valT rfl (rv_elemAJ (q := 1) (1) as_62 rfl rfl (by first | rfl | omega) (by omega) (by first | rfl | omega)) rfl ?_ | refine GL.valG rfl (fun hb => rv_elemAJ (q := 1) (1) as_62 (by first | exact evb rfl hb | rfl) (by first | exact evb rfl hb | rfl) (by first | rfl | omega) (by omega) (by first | rfl | omega)) rfl ?_
        first | refine GL.skipG rfl rfl ?_ | refine GL.skipU rfl rfl ?_ | refine GL.valT rfl (rv_load ag_3 rfl (by first | exact Hd.cell (k := 0) rfl rfl | exact Hd.rowCell (k := 0) rfl (by assumption))) rfl ?_ | refine GL.valG rfl (fun hb => rv_load ag_3 (by first | exact evb rfl hb | rfl) (by first | exact Hd.cell (k := 0) (by first | exact evb rfl hb | rfl) (by first | exact evb rfl hb | rfl) | exact Hd.rowCell (k := 0) (by first | exact evb rfl hb | rfl) (by assumption))) rfl ?_
        first | refine GL.skipG rfl rfl ?_ | refine GL.skipU rfl rfl ?_ | refine GL.valT rfl ((by first | exact rv_to (v' := .bool true) (rv_leq rfl rfl) (by simp only [Value.bool.injEq, decide_eq_true_eq, decide_eq_false_iff_not]; first | assumption | omega) | exact rv_to (v' := .bool false) (rv_leq rfl rfl) (by simp only [Value.bool.injEq, decide_eq_true_eq, decide_eq_false_iff_not]; first | assumption | omega))) rfl ?_ | refine GL.valG rfl (fun hb => (by first | exact rv_to (v' := .bool true) (rv_leq (by first | exact evb rfl hb | rfl) (by first | exact evb rfl hb | rfl)) (by simp only [Value.bool.injEq, decide_eq_true_eq, decide_eq_false_iff_not]; first | assumption | omega) | exact rv_to (v' := .bool false) (rv_leq (by first | exact evb rfl hb | rfl) (by first | exact evb rfl hb | rfl)) (by simp only [Value.bool.injEq, decide_eq_true_eq, decide_eq_false_iff_not]; first | assumption | omega))) rfl ?_
        refine GL.val ((by first | exact rv_andT rfl rfl rfl | exact rv_andF rfl rfl rfl | exact rv_pickAnd rfl rfl rfl)) rfl ?_
        refine GL.nil ?_
        exact GX.cutq () trivial (by repeat (first | exact Sub.nil | refine Sub.cons rfl ?_)) (fun w9 h => by
            exact h)
    refine GX.then ?_
    first | refine GC.condP rfl (fun c38 => ?_) (fun c38 => ?_) | refine GC.cond rfl (fun c38 => ?_) (fun c38 => ?_)
    · refine GC.seq ?_
      refine GC.reg ?_
      refine GL.val (rv_move rfl) rfl ?_
      refine GL.val (rv_elem es_28 rfl rfl (by omega) (by omega)) rfl ?_
      refine GL.val (rv_load ag_5 rfl (Hd.cell0 (Sh.byC hC (j := 0) (by simp)) (fun h => h))) rfl ?_
      refine GL.val (rv_assign rfl) rfl ?_
      refine GL.nil ?_
      refine GX.then ?_
      refine GC.ret ?_
      refine GX.then_ret ?_
      refine GX.ret1 rfl (RR.tmp rfl) ?_
      exact fun w9 h => ⟨(), (by rw [hk1 c38]; rfl), by
          have h := h.sel [] rfl rfl
          exact h, trivial⟩
    · refine GC.skip ?_
      refine GX.then ?_
      refine GC.seq ?_
      refine GC.reg ?_
      refine GL.val (rv_assign rfl) rfl ?_
      refine GL.nil ?_
      refine GX.then ?_
      refine GC.ret ?_
      refine GX.ret1 rfl (RR.tmp rfl) ?_
      exact fun w9 h => ⟨(), (by rw [hk0 c38]; rfl), by
          have h := h.sel [] rfl rfl
          exact h, trivial⟩
set_option maxRecDepth 100000 in
set_option maxHeartbeats 1000000 in
theorem kind_76 (b o n c : Nat) (bs : Sh.B) (w : World) (hC : Cells w b o (byts bs)) (hl : bs.length = n) (hn : n < 4611686018427387904) (h1 : bs.getD 0 0 = 76) (h0 : 0 < n) : Calls Try.prog 27 [.slice (some ⟨b, o, none⟩) n c].toArray w fun e w' => ∃ _g : Unit, e = .returned (v8 (kind bs)) ∧ St noB w w' [] ∧ True := by
  refine GC.calls Try.func27 rfl rfl (St.begin _) ?_
  obtain ⟨c0, r, rfl⟩ : ∃ c0 r, bs = c0 :: r := by cases bs with | nil => simp at hl; omega | cons c0 r => exact ⟨c0, r, rfl⟩
  rw [List.length_cons] at hl
  simp only [List.getD_cons_zero] at h1
  subst h1
  have hk1 : 65 ≤ n ∧ n ≤ 65 → kind (76 :: r) = 76 := fun h => by rw [kind, if_pos (.inr (.inl ⟨.inl rfl, by omega⟩))]
  have hk0 : ¬ (65 ≤ n ∧ n ≤ 65) → kind (76 :: r) = 0 := fun h => by rw [kind, if_neg (fun q => by rcases q with ⟨e, q⟩ | ⟨e, q⟩ | ⟨e, q⟩ | ⟨e, q1, q2⟩ <;> first | omega | exact absurd e (by decide))]
  refine GC.seq ?_
  refine GC.reg ?_
  refine GL.val (rv_assign rfl) rfl ?_
  refine GL.nil ?_
  refine GX.then ?_
  refine GC.seq ?_
  refine GC.reg ?_
  refine GL.step (ot_makeMap rfl fun r6 => ?_)
  refine GL.val (rv_buildA as_62 zb_62 rfl rfl rfl rfl) rfl ?_
  refine GL.step (ot_insert (k := 0) Try.underlying63 Try.underlying5 rfl rfl rfl rfl (by rfl) ?_)
  refine GL.val (rv_buildA as_62 zb_62 rfl rfl rfl rfl) rfl ?_
  refine GL.step (ot_insert (k := 0) Try.underlying63 Try.underlying5 rfl rfl rfl rfl (by rfl) ?_)
  refine GL.val (rv_buildA as_62 zb_62 rfl rfl rfl rfl) rfl ?_
  refine GL.step (ot_insert (k := 0) Try.underlying63 Try.underlying5 rfl rfl rfl rfl (by rfl) ?_)
  refine GL.val (rv_buildA as_62 zb_62 rfl rfl rfl rfl) rfl ?_
  refine GL.step (ot_insert (k := 0) Try.underlying63 Try.underlying5 rfl rfl rfl rfl (by rfl) ?_)
  refine GL.val (rv_buildA as_62 zb_62 rfl rfl rfl rfl) rfl ?_
  refine GL.step (ot_insert (k := 0) Try.underlying63 Try.underlying5 rfl rfl rfl rfl (by rfl) ?_)
  refine GL.val (rv_move rfl) rfl ?_
  refine GL.val (rv_assign rfl) rfl ?_
  refine GL.nil ?_
  refine GX.then ?_
  refine GC.seq ?_
  refine GC.seq ?_
  refine GC.reg ?_
  refine GL.val (rv_move rfl) rfl ?_
  refine GL.val (rv_lenSl Try.underlying28 rfl) rfl ?_
  refine GL.val (rv_eqI rfl rfl) rfl ?_
  refine GL.nil ?_
  refine GX.then ?_
  first | refine GC.condP rfl (fun c15 => ?_) (fun c15 => ?_) | refine GC.cond rfl (fun c15 => ?_) (fun c15 => ?_)
  · exact absurd c15 (by omega)
  · refine GC.skip ?_
    refine GX.then ?_
    refine GC.seq ?_
    refine GC.seq ?_
    refine GC.reg ?_
    refine GL.val (rv_move rfl) rfl ?_
    refine GL.val (rv_move rfl) rfl ?_
    refine GL.val (rv_elem es_28 rfl rfl (by omega) (by omega)) rfl ?_
    refine GL.val (rv_load ag_5 rfl (Hd.cell0 (Sh.byC hC (j := 0) (by simp)) (fun h => h))) rfl ?_
    refine GL.val (rv_lookup (k := 0) (z := 76) Try.underlying63 Try.underlying5 rfl rfl rfl zb_62 rfl rfl) rfl ?_
    refine GL.val (rv_move rfl) rfl ?_
    refine GL.val (rv_extract rfl rfl) rfl ?_
    refine GL.val (rv_extract rfl rfl) rfl ?_
    refine GL.step (ot_alloc (zs := [.int .i64 0, .int .i64 0]) zb_62 rfl rfl fun b4 => ?_)
    refine GL.step (ot_storeA (k := 0) rfl rfl rfl rfl (by exact sz_62) (by first | (fail) | rfl) (by first | (fail) | rfl) (by rfl) ?_)
    refine GL.val (rv_assign rfl) rfl ?_
    refine GL.nil ?_
    refine GX.then ?_
    refine GC.seq ?_
    refine GC.cutq (γ := Unit) [0] [1, 0] (fun g Lk => (38, .bool (decide (65 ≤ n ∧ n ≤ 65))) :: Lk) (fun g Fk => Fk) (fun g => True) rfl rfl ?_ (fun _ _ => ?_)
    · rcases (by omega : n < 65 ∨ (65 ≤ n ∧ 65 < n) ∨ (65 ≤ n ∧ n ≤ 65)) with h | h | h
      · rw [show decide (65 ≤ n ∧ n ≤ 65) = false from decide_eq_false (by omega)]
        refine GC.reg ?_
        refine GL.val (rv_move rfl) rfl ?_
        refine GL.val (rv_move rfl) rfl ?_
        first | refine GL.skipG rfl rfl ?_ | refine GL.skipU rfl rfl ?_ | refine GL.valT rfl (rv_move rfl) rfl ?_ | refine GL.valG rfl (fun hb => rv_move (by first | exact evb rfl hb | rfl)) rfl ?_
        first | refine GL.skipG rfl rfl ?_ | refine GL.skipU rfl rfl ?_ | refine GL.valT rfl (rv_lenSl Try.underlying28 rfl) rfl ?_ | refine GL.valG rfl (fun hb => rv_lenSl Try.underlying28 (by first | exact evb rfl hb | rfl)) rfl ?_
        first | refine GL.skipG rfl rfl ?_ | refine GL.skipU rfl rfl ?_ | refine GL.valT rfl (rv_elemAJ (q := 0) (0) as_62 rfl rfl (by first | rfl | omega) (by omega) (by first | rfl | omega)) rfl ?_ | refine GL.valG rfl (fun hb => rv_elemAJ (q := 0) (0) as_62 (by first | exact evb rfl hb | rfl) (by first | exact evb rfl hb | rfl) (by first | rfl | omega) (by omega) (by first | rfl | omega)) rfl ?_
        first | refine GL.skipG rfl rfl ?_ | refine GL.skipU rfl rfl ?_ | refine GL.valT rfl (rv_load ag_3 rfl (by first | exact Hd.cell (k := 0) rfl rfl | exact Hd.rowCell (k := 0) rfl (by assumption))) rfl ?_ | refine GL.valG rfl (fun hb => rv_load ag_3 (by first | exact evb rfl hb | rfl) (by first | exact Hd.cell (k := 0) (by first | exact evb rfl hb | rfl) (by first | exact evb rfl hb | rfl) | exact Hd.rowCell (k := 0) (by first | exact evb rfl hb | rfl) (by assumption))) rfl ?_
        first | refine GL.skipG rfl rfl ?_ | refine GL.skipU rfl rfl ?_ | refine GL.valT rfl ((by first | exact rv_to (v' := .bool true) (rv_geq rfl rfl) (by simp only [Value.bool.injEq, decide_eq_true_eq, decide_eq_false_iff_not]; first | assumption | omega) | exact rv_to (v' := .bool false) (rv_geq rfl rfl) (by simp only [Value.bool.injEq, decide_eq_true_eq, decide_eq_false_iff_not]; first | assumption | omega))) rfl ?_ | refine GL.valG rfl (fun hb => (by first | exact rv_to (v' := .bool true) (rv_geq (by first | exact evb rfl hb | rfl) (by first | exact evb rfl hb | rfl)) (by simp only [Value.bool.injEq, decide_eq_true_eq, decide_eq_false_iff_not]; first | assumption | omega) | exact rv_to (v' := .bool false) (rv_geq (by first | exact evb rfl hb | rfl) (by first | exact evb rfl hb | rfl)) (by simp only [Value.bool.injEq, decide_eq_true_eq, decide_eq_false_iff_not]; first | assumption | omega))) rfl ?_
        refine GL.val ((by first | exact rv_andT rfl rfl rfl | exact rv_andF rfl rfl rfl | exact rv_pickAnd rfl rfl rfl)) rfl ?_
        refine GL.val (rv_move rfl) rfl ?_
        first | refine GL.skipG rfl rfl ?_ | refine GL.skipU rfl rfl ?_ | refine GL.valT rfl (rv_move rfl) rfl ?_ | refine GL.valG rfl (fun hb => rv_move (by first | exact evb rfl hb | rfl)) rfl ?_
        first | refine GL.skipG rfl rfl ?_ | refine GL.skipU rfl rfl ?_ | refine GL.valT rfl (rv_lenSl Try.underlying28 rfl) rfl ?_ | refine GL.valG rfl (fun hb => rv_lenSl Try.underlying28 (by first | exact evb rfl hb | rfl)) rfl ?_
        first | refine GL.skipG rfl rfl ?_ | refine GL.skipU rfl rfl ?_ | refine GL.valT rfl (rv_elemAJ (q := 1) (1) as_62 rfl rfl (by first | rfl | omega) (by omega) (by first | rfl | omega)) rfl ?_ | refine GL.valG rfl (fun hb => rv_elemAJ (q := 1) (1) as_62 (by first | exact evb rfl hb | rfl) (by first | exact evb rfl hb | rfl) (by first | rfl | omega) (by omega) (by first | rfl | omega)) rfl ?_
        first | refine GL.skipG rfl rfl ?_ | refine GL.skipU rfl rfl ?_ | refine GL.valT rfl (rv_load ag_3 rfl (by first | exact Hd.cell (k := 0) rfl rfl | exact Hd.rowCell (k := 0) rfl (by assumption))) rfl ?_ | refine GL.valG rfl (fun hb => rv_load ag_3 (by first | exact evb rfl hb | rfl) (by first | exact Hd.cell (k := 0) (by first | exact evb rfl hb | rfl) (by first | exact evb rfl hb | rfl) | exact Hd.rowCell (k := 0) (by first | exact evb rfl hb | rfl) (by assumption))) rfl ?_
        first | refine GL.skipG rfl rfl ?_ | refine GL.skipU rfl rfl ?_ | refine GL.valT rfl ((by first | exact rv_to (v' := .bool true) (rv_leq rfl rfl) (by simp only [Value.bool.injEq, decide_eq_true_eq, decide_eq_false_iff_not]; first | assumption | omega) | exact rv_to (v' := .bool false) (rv_leq rfl rfl) (by simp only [Value.bool.injEq, decide_eq_true_eq, decide_eq_false_iff_not]; first | assumption | omega))) rfl ?_ | refine GL.valG rfl (fun hb => (by first | exact rv_to (v' := .bool true) (rv_leq (by first | exact evb rfl hb | rfl) (by first | exact evb rfl hb | rfl)) (by simp only [Value.bool.injEq, decide_eq_true_eq, decide_eq_false_iff_not]; first | assumption | omega) | exact rv_to (v' := .bool false) (rv_leq (by first | exact evb rfl hb | rfl) (by first | exact evb rfl hb | rfl)) (by simp only [Value.bool.injEq, decide_eq_true_eq, decide_eq_false_iff_not]; first | assumption | omega))) rfl ?_
        refine GL.val ((by first | exact rv_andT rfl rfl rfl | exact rv_andF rfl rfl rfl | exact rv_pickAnd rfl rfl rfl)) rfl ?_
        refine GL.nil ?_
        exact GX.cutq () trivial (by repeat (first | exact Sub.nil | refine Sub.cons rfl ?_)) (fun w9 h => by
            exact h)
      · rw [show decide (65 ≤ n ∧ n ≤ 65) = false from decide_eq_false (by omega)]
        refine GC.reg ?_
        refine GL.val (rv_move rfl) rfl ?_
        refine GL.val (rv_move rfl) rfl ?_
        first | refine GL.skipG rfl rfl ?_ | refine GL.skipU rfl rfl ?_ | refine GL.valT rfl (rv_move rfl) rfl ?_ | refine GL.valG rfl (fun hb => rv_move (by first | exact evb rfl hb | rfl)) rfl ?_
        first | refine GL.skipG rfl rfl ?_ | refine GL.skipU rfl rfl ?_ | refine GL.valT rfl (rv_lenSl Try.underlying28 rfl) rfl ?_ | refine GL.valG rfl (fun hb => rv_lenSl Try.underlying28 (by first | exact evb rfl hb | rfl)) rfl ?_
        first | refine GL.skipG rfl rfl ?_ | refine GL.skipU rfl rfl ?_ | refine GL.valT rfl (rv_elemAJ (q := 0) (0) as_62 rfl rfl (by first | rfl | omega) (by omega) (by first | rfl | omega)) rfl ?_ | refine GL.valG rfl (fun hb => rv_elemAJ (q := 0) (0) as_62 (by first | exact evb rfl hb | rfl) (by first | exact evb rfl hb | rfl) (by first | rfl | omega) (by omega) (by first | rfl | omega)) rfl ?_
        first | refine GL.skipG rfl rfl ?_ | refine GL.skipU rfl rfl ?_ | refine GL.valT rfl (rv_load ag_3 rfl (by first | exact Hd.cell (k := 0) rfl rfl | exact Hd.rowCell (k := 0) rfl (by assumption))) rfl ?_ | refine GL.valG rfl (fun hb => rv_load ag_3 (by first | exact evb rfl hb | rfl) (by first | exact Hd.cell (k := 0) (by first | exact evb rfl hb | rfl) (by first | exact evb rfl hb | rfl) | exact Hd.rowCell (k := 0) (by first | exact evb rfl hb | rfl) (by assumption))) rfl ?_
        first | refine GL.skipG rfl rfl ?_ | refine GL.skipU rfl rfl ?_ | refine GL.valT rfl ((by first | exact rv_to (v' := .bool true) (rv_geq rfl rfl) (by simp only [Value.bool.injEq, decide_eq_true_eq, decide_eq_false_iff_not]; first | assumption | omega) | exact rv_to (v' := .bool false) (rv_geq rfl rfl) (by simp only [Value.bool.injEq, decide_eq_true_eq, decide_eq_false_iff_not]; first | assumption | omega))) rfl ?_ | refine GL.valG rfl (fun hb => (by first | exact rv_to (v' := .bool true) (rv_geq (by first | exact evb rfl hb | rfl) (by first | exact evb rfl hb | rfl)) (by simp only [Value.bool.injEq, decide_eq_true_eq, decide_eq_false_iff_not]; first | assumption | omega) | exact rv_to (v' := .bool false) (rv_geq (by first | exact evb rfl hb | rfl) (by first | exact evb rfl hb | rfl)) (by simp only [Value.bool.injEq, decide_eq_true_eq, decide_eq_false_iff_not]; first | assumption | omega))) rfl ?_
        refine GL.val ((by first | exact rv_andT rfl rfl rfl | exact rv_andF rfl rfl rfl | exact rv_pickAnd rfl rfl rfl)) rfl ?_
        refine GL.val (rv_move rfl) rfl ?_
        first | refine GL.skipG rfl rfl ?_ | refine GL.skipU rfl rfl ?_ | refine GL.valT rfl (rv_move rfl) rfl ?_ | refine GL.valG rfl (fun hb => rv_move (by first | exact evb rfl hb | rfl)) rfl ?_
        first | refine GL.skipG rfl rfl ?_ | refine GL.skipU rfl rfl ?_ | refine GL.valT rfl (rv_lenSl Try.underlying28 rfl) rfl ?_ | refine GL.valG rfl (fun hb => rv_lenSl Try.underlying28 (by first | exact evb rfl hb | rfl)) rfl ?_
        first | refine GL.skipG rfl rfl ?_ | refine GL.skipU rfl rfl ?_ | refine GL.valT rfl (rv_elemAJ (q := 1) (1) as_62 rfl rfl (by first | rfl | omega) (by omega) (by first | rfl | omega)) rfl ?_ | refine GL.valG rfl (fun hb => rv_elemAJ (q := 1) (1) as_62 (by first | exact evb rfl hb | rfl) (by first | exact evb rfl hb | rfl) (by first | rfl | omega) (by omega) (by first | rfl | omega)) rfl ?_
        first | refine GL.skipG rfl rfl ?_ | refine GL.skipU rfl rfl ?_ | refine GL.valT rfl (rv_load ag_3 rfl (by first | exact Hd.cell (k := 0) rfl rfl | exact Hd.rowCell (k := 0) rfl (by assumption))) rfl ?_ | refine GL.valG rfl (fun hb => rv_load ag_3 (by first | exact evb rfl hb | rfl) (by first | exact Hd.cell (k := 0) (by first | exact evb rfl hb | rfl) (by first | exact evb rfl hb | rfl) | exact Hd.rowCell (k := 0) (by first | exact evb rfl hb | rfl) (by assumption))) rfl ?_
        first | refine GL.skipG rfl rfl ?_ | refine GL.skipU rfl rfl ?_ | refine GL.valT rfl ((by first | exact rv_to (v' := .bool true) (rv_leq rfl rfl) (by simp only [Value.bool.injEq, decide_eq_true_eq, decide_eq_false_iff_not]; first | assumption | omega) | exact rv_to (v' := .bool false) (rv_leq rfl rfl) (by simp only [Value.bool.injEq, decide_eq_true_eq, decide_eq_false_iff_not]; first | assumption | omega))) rfl ?_ | refine GL.valG rfl (fun hb => (by first | exact rv_to (v' := .bool true) (rv_leq (by first | exact evb rfl hb | rfl) (by first | exact evb rfl hb | rfl)) (by simp only [Value.bool.injEq, decide_eq_true_eq, decide_eq_false_iff_not]; first | assumption | omega) | exact rv_to (v' := .bool false) (rv_leq (by first | exact evb rfl hb | rfl) (by first | exact evb rfl hb | rfl)) (by simp only [Value.bool.injEq, decide_eq_true_eq, decide_eq_false_iff_not]; first | assumption | omega))) rfl ?_
        refine GL.val ((by first | exact rv_andT rfl rfl rfl | exact rv_andF rfl rfl rfl | exact rv_pickAnd rfl rfl rfl)) rfl ?_
        refine GL.nil ?_
        exact GX.cutq () trivial (by repeat (first | exact Sub.nil | refine Sub.cons rfl ?_)) (fun w9 h => by
            exact h)
      · rw [show decide (65 ≤ n ∧ n ≤ 65) = true from decide_eq_true (by omega)]
        refine GC.reg ?_
        refine GL.val (rv_move rfl) rfl ?_
        refine GL.val (rv_move rfl) rfl ?_
        first | refine GL.skipG rfl rfl ?_ | refine GL.skipU rfl rfl ?_ | refine GL.valT rfl (rv_move rfl) rfl ?_ | refine GL.valG rfl (fun hb => rv_move (by first | exact evb rfl hb | rfl)) rfl ?_
        first | refine GL.skipG rfl rfl ?_ | refine GL.skipU rfl rfl ?_ | refine GL.valT rfl (rv_lenSl Try.underlying28 rfl) rfl ?_ | refine GL.valG rfl (fun hb => rv_lenSl Try.underlying28 (by first | exact evb rfl hb | rfl)) rfl ?_
        first | refine GL.skipG rfl rfl ?_ | refine GL.skipU rfl rfl ?_ | refine GL.valT rfl (rv_elemAJ (q := 0) (0) as_62 rfl rfl (by first | rfl | omega) (by omega) (by first | rfl | omega)) rfl ?_ | refine GL.valG rfl (fun hb => rv_elemAJ (q := 0) (0) as_62 (by first | exact evb rfl hb | rfl) (by first | exact evb rfl hb | rfl) (by first | rfl | omega) (by omega) (by first | rfl | omega)) rfl ?_
        first | refine GL.skipG rfl rfl ?_ | refine GL.skipU rfl rfl ?_ | refine GL.valT rfl (rv_load ag_3 rfl (by first | exact Hd.cell (k := 0) rfl rfl | exact Hd.rowCell (k := 0) rfl (by assumption))) rfl ?_ | refine GL.valG rfl (fun hb => rv_load ag_3 (by first | exact evb rfl hb | rfl) (by first | exact Hd.cell (k := 0) (by first | exact evb rfl hb | rfl) (by first | exact evb rfl hb | rfl) | exact Hd.rowCell (k := 0) (by first | exact evb rfl hb | rfl) (by assumption))) rfl ?_
        first | refine GL.skipG rfl rfl ?_ | refine GL.skipU rfl rfl ?_ | refine GL.valT rfl ((by first | exact rv_to (v' := .bool true) (rv_geq rfl rfl) (by simp only [Value.bool.injEq, decide_eq_true_eq, decide_eq_false_iff_not]; first | assumption | omega) | exact rv_to (v' := .bool false) (rv_geq rfl rfl) (by simp only [Value.bool.injEq, decide_eq_true_eq, decide_eq_false_iff_not]; first | assumption | omega))) rfl ?_ | refine GL.valG rfl (fun hb => (by first | exact rv_to (v' := .bool true) (rv_geq (by first | exact evb rfl hb | rfl) (by first | exact evb rfl hb | rfl)) (by simp only [Value.bool.injEq, decide_eq_true_eq, decide_eq_false_iff_not]; first | assumption | omega) | exact rv_to (v' := .bool false) (rv_geq (by first | exact evb rfl hb | rfl) (by first | exact evb rfl hb | rfl)) (by simp only [Value.bool.injEq, decide_eq_true_eq, decide_eq_false_iff_not]; first | assumption | omega))) rfl ?_
        refine GL.val ((by first | exact rv_andT rfl rfl rfl | exact rv_andF rfl rfl rfl | exact rv_pickAnd rfl rfl rfl)) rfl ?_
        refine GL.val (rv_move rfl) rfl ?_
        first | refine GL.skipG rfl rfl ?_ | refine GL.skipU rfl rfl ?_ | refine GL.valT rfl (rv_move rfl) rfl ?_ | refine GL.valG rfl (fun hb => rv_move (by first | exact evb rfl hb | rfl)) rfl ?_
        first | refine GL.skipG rfl rfl ?_ | refine GL.skipU rfl rfl ?_ | refine GL.valT rfl (rv_lenSl Try.underlying28 rfl) rfl ?_ | refine GL.valG rfl (fun hb => rv_lenSl Try.underlying28 (by first | exact evb rfl hb | rfl)) rfl ?_
        first | refine GL.skipG rfl rfl ?_ | refine GL.skipU rfl rfl ?_ | refine GL.valT rfl (rv_elemAJ (q := 1) (1) as_62 rfl rfl (by first | rfl | omega) (by omega) (by first | rfl | omega)) rfl ?_ | refine GL.valG rfl (fun hb => rv_elemAJ (q := 1) (1) as_62 (by first | exact evb rfl hb | rfl) (by first | exact evb rfl hb | rfl) (by first | rfl | omega) (by omega) (by first | rfl | omega)) rfl ?_
        first | refine GL.skipG rfl rfl ?_ | refine GL.skipU rfl rfl ?_ | refine GL.valT rfl (rv_load ag_3 rfl (by first | exact Hd.cell (k := 0) rfl rfl | exact Hd.rowCell (k := 0) rfl (by assumption))) rfl ?_ | refine GL.valG rfl (fun hb => rv_load ag_3 (by first | exact evb rfl hb | rfl) (by first | exact Hd.cell (k := 0) (by first | exact evb rfl hb | rfl) (by first | exact evb rfl hb | rfl) | exact Hd.rowCell (k := 0) (by first | exact evb rfl hb | rfl) (by assumption))) rfl ?_
        first | refine GL.skipG rfl rfl ?_ | refine GL.skipU rfl rfl ?_ | refine GL.valT rfl ((by first | exact rv_to (v' := .bool true) (rv_leq rfl rfl) (by simp only [Value.bool.injEq, decide_eq_true_eq, decide_eq_false_iff_not]; first | assumption | omega) | exact rv_to (v' := .bool false) (rv_leq rfl rfl) (by simp only [Value.bool.injEq, decide_eq_true_eq, decide_eq_false_iff_not]; first | assumption | omega))) rfl ?_ | refine GL.valG rfl (fun hb => (by first | exact rv_to (v' := .bool true) (rv_leq (by first | exact evb rfl hb | rfl) (by first | exact evb rfl hb | rfl)) (by simp only [Value.bool.injEq, decide_eq_true_eq, decide_eq_false_iff_not]; first | assumption | omega) | exact rv_to (v' := .bool false) (rv_leq (by first | exact evb rfl hb | rfl) (by first | exact evb rfl hb | rfl)) (by simp only [Value.bool.injEq, decide_eq_true_eq, decide_eq_false_iff_not]; first | assumption | omega))) rfl ?_
        refine GL.val ((by first | exact rv_andT rfl rfl rfl | exact rv_andF rfl rfl rfl | exact rv_pickAnd rfl rfl rfl)) rfl ?_
        refine GL.nil ?_
        exact GX.cutq () trivial (by repeat (first | exact Sub.nil | refine Sub.cons rfl ?_)) (fun w9 h => by
            exact h)
    refine GX.then ?_
    first | refine GC.condP rfl (fun c38 => ?_) (fun c38 => ?_) | refine GC.cond rfl (fun c38 => ?_) (fun c38 => ?_)
    · refine GC.seq ?_
      refine GC.reg ?_
      refine GL.val (rv_move rfl) rfl ?_
      refine GL.val (rv_elem es_28 rfl rfl (by omega) (by omega)) rfl ?_
      refine GL.val (rv_load ag_5 rfl (Hd.cell0 (Sh.byC hC (j := 0) (by simp)) (fun h => h))) rfl ?_
      refine GL.val (rv_assign rfl) rfl ?_
      refine GL.nil ?_
      refine GX.then ?_
      refine GC.ret ?_
      refine GX.then_ret ?_
      refine GX.ret1 rfl (RR.tmp rfl) ?_
      exact fun w9 h => ⟨(), (by rw [hk1 c38]; rfl), by
          have h := h.sel [] rfl rfl
          exact h, trivial⟩
    · refine GC.skip ?_
      refine GX.then ?_
      refine GC.seq ?_
      refine GC.reg ?_
      refine GL.val (rv_assign rfl) rfl ?_
      refine GL.nil ?_
      refine GX.then ?_
      refine GC.ret ?_
      refine GX.ret1 rfl (RR.tmp rfl) ?_
      exact fun w9 h => ⟨(), (by rw [hk0 c38]; rfl), by
          have h := h.sel [] rfl rfl
          exact h, trivial⟩
set_option maxRecDepth 100000 in
set_option maxHeartbeats 1000000 in
theorem kind_78 (b o n c : Nat) (bs : Sh.B) (w : World) (hC : Cells w b o (byts bs)) (hl : bs.length = n) (hn : n < 4611686018427387904) (h1 : bs.getD 0 0 = 78) (h0 : 0 < n) : Calls Try.prog 27 [.slice (some ⟨b, o, none⟩) n c].toArray w fun e w' => ∃ _g : Unit, e = .returned (v8 (kind bs)) ∧ St noB w w' [] ∧ True := by
  refine GC.calls Try.func27 rfl rfl (St.begin _) ?_
  obtain ⟨c0, r, rfl⟩ : ∃ c0 r, bs = c0 :: r := by cases bs with | nil => simp at hl; omega | cons c0 r => exact ⟨c0, r, rfl⟩
  rw [List.length_cons] at hl
  simp only [List.getD_cons_zero] at h1
  subst h1
  have hk1 : 65 ≤ n ∧ n ≤ 65 → kind (78 :: r) = 78 := fun h => by rw [kind, if_pos (.inr (.inl ⟨.inr rfl, by omega⟩))]
  have hk0 : ¬ (65 ≤ n ∧ n ≤ 65) → kind (78 :: r) = 0 := fun h => by rw [kind, if_neg (fun q => by rcases q with ⟨e, q⟩ | ⟨e, q⟩ | ⟨e, q⟩ | ⟨e, q1, q2⟩ <;> first | omega | exact absurd e (by decide))]
  refine GC.seq ?_
  refine GC.reg ?_
  refine GL.val (rv_assign rfl) rfl ?_
  refine GL.nil ?_
  refine GX.then ?_
  refine GC.seq ?_
  refine GC.reg ?_
  refine GL.step (ot_makeMap rfl fun r6 => ?_)
  refine GL.val (rv_buildA as_62 zb_62 rfl rfl rfl rfl) rfl ?_
  refine GL.step (ot_insert (k := 0) Try.underlying63 Try.underlying5 rfl rfl rfl rfl (by rfl) ?_)
  refine GL.val (rv_buildA as_62 zb_62 rfl rfl rfl rfl) rfl ?_
  refine GL.step (ot_insert (k := 0) Try.underlying63 Try.underlying5 rfl rfl rfl rfl (by rfl) ?_)
  refine GL.val (rv_buildA as_62 zb_62 rfl rfl rfl rfl) rfl ?_
  refine GL.step (ot_insert (k := 0) Try.underlying63 Try.underlying5 rfl rfl rfl rfl (by rfl) ?_)
  refine GL.val (rv_buildA as_62 zb_62 rfl rfl rfl rfl) rfl ?_
  refine GL.step (ot_insert (k := 0) Try.underlying63 Try.underlying5 rfl rfl rfl rfl (by rfl) ?_)
  refine GL.val (rv_buildA as_62 zb_62 rfl rfl rfl rfl) rfl ?_
  refine GL.step (ot_insert (k := 0) Try.underlying63 Try.underlying5 rfl rfl rfl rfl (by rfl) ?_)
  refine GL.val (rv_move rfl) rfl ?_
  refine GL.val (rv_assign rfl) rfl ?_
  refine GL.nil ?_
  refine GX.then ?_
  refine GC.seq ?_
  refine GC.seq ?_
  refine GC.reg ?_
  refine GL.val (rv_move rfl) rfl ?_
  refine GL.val (rv_lenSl Try.underlying28 rfl) rfl ?_
  refine GL.val (rv_eqI rfl rfl) rfl ?_
  refine GL.nil ?_
  refine GX.then ?_
  first | refine GC.condP rfl (fun c15 => ?_) (fun c15 => ?_) | refine GC.cond rfl (fun c15 => ?_) (fun c15 => ?_)
  · exact absurd c15 (by omega)
  · refine GC.skip ?_
    refine GX.then ?_
    refine GC.seq ?_
    refine GC.seq ?_
    refine GC.reg ?_
    refine GL.val (rv_move rfl) rfl ?_
    refine GL.val (rv_move rfl) rfl ?_
    refine GL.val (rv_elem es_28 rfl rfl (by omega) (by omega)) rfl ?_
    refine GL.val (rv_load ag_5 rfl (Hd.cell0 (Sh.byC hC (j := 0) (by simp)) (fun h => h))) rfl ?_
    refine GL.val (rv_lookup (k := 0) (z := 78) Try.underlying63 Try.underlying5 rfl rfl rfl zb_62 rfl rfl) rfl ?_
    refine GL.val (rv_move rfl) rfl ?_
    refine GL.val (rv_extract rfl rfl) rfl ?_
    refine GL.val (rv_extract rfl rfl) rfl ?_
    refine GL.step (ot_alloc (zs := [.int .i64 0, .int .i64 0]) zb_62 rfl rfl fun b4 => ?_)
    refine GL.step (ot_storeA (k := 0) rfl rfl rfl rfl (by exact sz_62) (by first | (fail) | rfl) (by first | (fail) | rfl) (by rfl) ?_)
    refine GL.val (rv_assign rfl) rfl ?_
    refine GL.nil ?_
    refine GX.then ?_
    refine GC.seq ?_
    refine GC.cutq (γ := Unit) [0] [1, 0] (fun g Lk => (38, .bool (decide (65 ≤ n ∧ n ≤ 65))) :: Lk) (fun g Fk => Fk) (fun g => True) rfl rfl ?_ (fun _ _ => ?_)
    · rcases (by omega : n < 65 ∨ (65 ≤ n ∧ 65 < n) ∨ (65 ≤ n ∧ n ≤ 65)) with h | h | h
      · rw [show decide (65 ≤ n ∧ n ≤ 65) = false from decide_eq_false (by omega)]
        refine GC.reg ?_
        refine GL.val (rv_move rfl) rfl ?_
        refine GL.val (rv_move rfl) rfl ?_
        first | refine GL.skipG rfl rfl ?_ | refine GL.skipU rfl rfl ?_ | refine GL.valT rfl (rv_move rfl) rfl ?_ | refine GL.valG rfl (fun hb => rv_move (by first | exact evb rfl hb | rfl)) rfl ?_
        first | refine GL.skipG rfl rfl ?_ | refine GL.skipU rfl rfl ?_ | refine GL.valT rfl (rv_lenSl Try.underlying28 rfl) rfl ?_ | refine GL.valG rfl (fun hb => rv_lenSl Try.underlying28 (by first | exact evb rfl hb | rfl)) rfl ?_
        first | refine GL.skipG rfl rfl ?_ | refine GL.skipU rfl rfl ?_ | refine GL.valT rfl (rv_elemAJ (q := 0) (0) as_62 rfl rfl (by first | rfl | omega) (by omega) (by first | rfl | omega)) rfl ?_ | refine GL.valG rfl (fun hb => rv_elemAJ (q := 0) (0) as_62 (by first | exact evb rfl hb | rfl) (by first | exact evb rfl hb | rfl) (by first | rfl | omega) (by omega) (by first | rfl | omega)) rfl ?_
        first | refine GL.skipG rfl rfl ?_ | refine GL.skipU rfl rfl ?_ | refine GL.valT rfl (rv_load ag_3 rfl (by first | exact Hd.cell (k := 0) rfl rfl | exact Hd.rowCell (k := 0) rfl (by assumption))) rfl ?_ | refine GL.valG rfl (fun hb => rv_load ag_3 (by first | exact evb rfl hb | rfl) (by first | exact Hd.cell (k := 0) (by first | exact evb rfl hb | rfl) (by first | exact evb rfl hb | rfl) | exact Hd.rowCell (k := 0) (by first | exact evb rfl hb | rfl) (by assumption))) rfl ?_
        first | refine GL.skipG rfl rfl ?_ | refine GL.skipU rfl rfl ?_ | refine GL.valT rfl ((by first | exact rv_to (v' := .bool true) (rv_geq rfl rfl) (by simp only [Value.bool.injEq, decide_eq_true_eq, decide_eq_false_iff_not]; first | assumption | omega) | exact rv_to (v' := .bool false) (rv_geq rfl rfl) (by simp only [Value.bool.injEq, decide_eq_true_eq, decide_eq_false_iff_not]; first | assumption | omega))) rfl ?_ | refine GL.valG rfl (fun hb => (by first | exact rv_to (v' := .bool true) (rv_geq (by first | exact evb rfl hb | rfl) (by first | exact evb rfl hb | rfl)) (by simp only [Value.bool.injEq, decide_eq_true_eq, decide_eq_false_iff_not]; first | assumption | omega) | exact rv_to (v' := .bool false) (rv_geq (by first | exact evb rfl hb | rfl) (by first | exact evb rfl hb | rfl)) (by simp only [Value.bool.injEq, decide_eq_true_eq, decide_eq_false_iff_not]; first | assumption | omega))) rfl ?_
        refine GL.val ((by first | exact rv_andT rfl rfl rfl | exact rv_andF rfl rfl rfl | exact rv_pickAnd rfl rfl rfl)) rfl ?_
        refine GL.val (rv_move rfl) rfl ?_
        first | refine GL.skipG rfl rfl ?_ | refine GL.skipU rfl rfl ?_ | refine GL.valT rfl (rv_move rfl) rfl ?_ | refine GL.valG rfl (fun hb => rv_move (by first | exact evb rfl hb | rfl)) rfl ?_
        first | refine GL.skipG rfl rfl ?_ | refine GL.skipU rfl rfl ?_ | refine GL.valT rfl (rv_lenSl Try.underlying28 rfl) rfl ?_ | refine GL.valG rfl (fun hb => rv_lenSl Try.underlying28 (by first | exact evb rfl hb | rfl)) rfl ?_
        first | refine GL.skipG rfl rfl ?_ | refine GL.skipU rfl rfl ?_ | refine GL.valT rfl (rv_elemAJ (q := 1) (1) as_62 rfl rfl (by first | rfl | omega) (by omega) (by first | rfl | omega)) rfl ?_ | refine GL.valG rfl (fun hb => rv_elemAJ (q := 1) (1) as_62 (by first | exact evb rfl hb | rfl) (by first | exact evb rfl hb | rfl) (by first | rfl | omega) (by omega) (by first | rfl | omega)) rfl ?_
        first | refine GL.skipG rfl rfl ?_ | refine GL.skipU rfl rfl ?_ | refine GL.valT rfl (rv_load ag_3 rfl (by first | exact Hd.cell (k := 0) rfl rfl | exact Hd.rowCell (k := 0) rfl (by assumption))) rfl ?_ | refine GL.valG rfl (fun hb => rv_load ag_3 (by first | exact evb rfl hb | rfl) (by first | exact Hd.cell (k := 0) (by first | exact evb rfl hb | rfl) (by first | exact evb rfl hb | rfl) | exact Hd.rowCell (k := 0) (by first | exact evb rfl hb | rfl) (by assumption))) rfl ?_
        first | refine GL.skipG rfl rfl ?_ | refine GL.skipU rfl rfl ?_ | refine GL.valT rfl ((by first | exact rv_to (v' := .bool true) (rv_leq rfl rfl) (by simp only [Value.bool.injEq, decide_eq_true_eq, decide_eq_false_iff_not]; first | assumption | omega) | exact rv_to (v' := .bool false) (rv_leq rfl rfl) (by simp only [Value.bool.injEq, decide_eq_true_eq, decide_eq_false_iff_not]; first | assumption | omega))) rfl ?_ | refine GL.valG rfl (fun hb => (by first | exact rv_to (v' := .bool true) (rv_leq (by first | exact evb rfl hb | rfl) (by first | exact evb rfl hb | rfl)) (by simp only [Value.bool.injEq, decide_eq_true_eq, decide_eq_false_iff_not]; first | assumption | omega) | exact rv_to (v' := .bool false) (rv_leq (by first | exact evb rfl hb | rfl) (by first | exact evb rfl hb | rfl)) (by simp only [Value.bool.injEq, decide_eq_true_eq, decide_eq_false_iff_not]; first | assumption | omega))) rfl ?_
        refine GL.val ((by first | exact rv_andT rfl rfl rfl | exact rv_andF rfl rfl rfl | exact rv_pickAnd rfl rfl rfl)) rfl ?_
        refine GL.nil ?_
        exact GX.cutq () trivial (by repeat (first | exact Sub.nil | refine Sub.cons rfl ?_)) (fun w9 h => by
            exact h)
      · rw [show decide (65 ≤ n ∧ n ≤ 65) = false from decide_eq_false (by omega)]
        refine GC.reg ?_
        refine GL.val (rv_move rfl) rfl ?_
        refine GL.val (rv_move rfl) rfl ?_
        first | refine GL.skipG rfl rfl ?_ | refine GL.skipU rfl rfl ?_ | refine GL.valT rfl (rv_move rfl) rfl ?_ | refine GL.valG rfl (fun hb => rv_move (by first | exact evb rfl hb | rfl)) rfl ?_
        first | refine GL.skipG rfl rfl ?_ | refine GL.skipU rfl rfl ?_ | refine GL.valT rfl (rv_lenSl Try.underlying28 rfl) rfl ?_ | refine GL.valG rfl (fun hb => rv_lenSl Try.underlying28 (by first | exact evb rfl hb | rfl)) rfl ?_
        first | refine GL.skipG rfl rfl ?_ | refine GL.skipU rfl rfl ?_ | refine GL.valT rfl (rv_elemAJ (q := 0) (0) as_62 rfl rfl (by first | rfl | omega) (by omega) (by first | rfl | omega)) rfl ?_ | refine GL.valG rfl (fun hb => rv_elemAJ (q := 0) (0) as_62 (by first | exact evb rfl hb | rfl) (by first | exact evb rfl hb | rfl) (by first | rfl | omega) (by omega) (by first | rfl | omega)) rfl ?_
        first | refine GL.skipG rfl rfl ?_ | refine GL.skipU rfl rfl ?_ | refine GL.valT rfl (rv_load ag_3 rfl (by first | exact Hd.cell (k := 0) rfl rfl | exact Hd.rowCell (k := 0) rfl (by assumption))) rfl ?_ | refine GL.valG rfl (fun hb => rv_load ag_3 (by first | exact evb rfl hb | rfl) (by first | exact Hd.cell (k := 0) (by first | exact evb rfl hb | rfl) (by first | exact evb rfl hb | rfl) | exact Hd.rowCell (k := 0) (by first | exact evb rfl hb | rfl) (by assumption))) rfl ?_
        first | refine GL.skipG rfl rfl ?_ | refine GL.skipU rfl rfl ?_ | refine GL.valT rfl ((by first | exact rv_to (v' := .bool true) (rv_geq rfl rfl) (by simp only [Value.bool.injEq, decide_eq_true_eq, decide_eq_false_iff_not]; first | assumption | omega) | exact rv_to (v' := .bool false) (rv_geq rfl rfl) (by simp only [Value.bool.injEq, decide_eq_true_eq, decide_eq_false_iff_not]; first | assumption | omega))) rfl ?_ | refine GL.valG rfl (fun hb => (by first | exact rv_to (v' := .bool true) (rv_geq (by first | exact evb rfl hb | rfl) (by first | exact evb rfl hb | rfl)) (by simp only [Value.bool.injEq, decide_eq_true_eq, decide_eq_false_iff_not]; first | assumption | omega) | exact rv_to (v' := .bool false) (rv_geq (by first | exact evb rfl hb | rfl) (by first | exact evb rfl hb | rfl)) (by simp only [Value.bool.injEq, decide_eq_true_eq, decide_eq_false_iff_not]; first | assumption | omega))) rfl ?_
        refine GL.val ((by first | exact rv_andT rfl rfl rfl | exact rv_andF rfl rfl rfl | exact rv_pickAnd rfl rfl rfl)) rfl ?_
        refine GL.val (rv_move rfl) rfl ?_
        first | refine GL.skipG rfl rfl ?_ | refine GL.skipU rfl rfl ?_ | refine GL.valT rfl (rv_move rfl) rfl ?_ | refine GL.valG rfl (fun hb => rv_move (by first | exact evb rfl hb | rfl)) rfl ?_
        first | refine GL.skipG rfl rfl ?_ | refine GL.skipU rfl rfl ?_ | refine GL.valT rfl (rv_lenSl Try.underlying28 rfl) rfl ?_ | refine GL.valG rfl (fun hb => rv_lenSl Try.underlying28 (by first | exact evb rfl hb | rfl)) rfl ?_
        first | refine GL.skipG rfl rfl ?_ | refine GL.skipU rfl rfl ?_ | refine GL.valT rfl (rv_elemAJ (q := 1) (1) as_62 rfl rfl (by first | rfl | omega) (by omega) (by first | rfl | omega)) rfl ?_ | refine GL.valG rfl (fun hb => rv_elemAJ (q := 1) (1) as_62 (by first | exact evb rfl hb | rfl) (by first | exact evb rfl hb | rfl) (by first | rfl | omega) (by omega) (by first | rfl | omega)) rfl ?_
        first | refine GL.skipG rfl rfl ?_ | refine GL.skipU rfl rfl ?_ | refine GL.valT rfl (rv_load ag_3 rfl (by first | exact Hd.cell (k := 0) rfl rfl | exact Hd.rowCell (k := 0) rfl (by assumption))) rfl ?_ | refine GL.valG rfl (fun hb => rv_load ag_3 (by first | exact evb rfl hb | rfl) (by first | exact Hd.cell (k := 0) (by first | exact evb rfl hb | rfl) (by first | exact evb rfl hb | rfl) | exact Hd.rowCell (k := 0) (by first | exact evb rfl hb | rfl) (by assumption))) rfl ?_
        first | refine GL.skipG rfl rfl ?_ | refine GL.skipU rfl rfl ?_ | refine GL.valT rfl ((by first | exact rv_to (v' := .bool true) (rv_leq rfl rfl) (by simp only [Value.bool.injEq, decide_eq_true_eq, decide_eq_false_iff_not]; first | assumption | omega) | exact rv_to (v' := .bool false) (rv_leq rfl rfl) (by simp only [Value.bool.injEq, decide_eq_true_eq, decide_eq_false_iff_not]; first | assumption | omega))) rfl ?_ | refine GL.valG rfl (fun hb => (by first | exact rv_to (v' := .bool true) (rv_leq (by first | exact evb rfl hb | rfl) (by first | exact evb rfl hb | rfl)) (by simp only [Value.bool.injEq, decide_eq_true_eq, decide_eq_false_iff_not]; first | assumption | omega) | exact rv_to (v' := .bool false) (rv_leq (by first | exact evb rfl hb | rfl) (by first | exact evb rfl hb | rfl)) (by simp only [Value.bool.injEq, decide_eq_true_eq, decide_eq_false_iff_not]; first | assumption | omega))) rfl ?_
        refine GL.val ((by first | exact rv_andT rfl rfl rfl | exact rv_andF rfl rfl rfl | exact rv_pickAnd rfl rfl rfl)) rfl ?_
        refine GL.nil ?_
        exact GX.cutq () trivial (by repeat (first | exact Sub.nil | refine Sub.cons rfl ?_)) (fun w9 h => by
            exact h)
      · rw [show decide (65 ≤ n ∧ n ≤ 65) = true from decide_eq_true (by omega)]
        refine GC.reg ?_
        refine GL.val (rv_move rfl) rfl ?_
        refine GL.val (rv_move rfl) rfl ?_
        first | refine GL.skipG rfl rfl ?_ | refine GL.skipU rfl rfl ?_ | refine GL.valT rfl (rv_move rfl) rfl ?_ | refine GL.valG rfl (fun hb => rv_move (by first | exact evb rfl hb | rfl)) rfl ?_
        first | refine GL.skipG rfl rfl ?_ | refine GL.skipU rfl rfl ?_ | refine GL.valT rfl (rv_lenSl Try.underlying28 rfl) rfl ?_ | refine GL.valG rfl (fun hb => rv_lenSl Try.underlying28 (by first | exact evb rfl hb | rfl)) rfl ?_
        first | refine GL.skipG rfl rfl ?_ | refine GL.skipU rfl rfl ?_ | refine GL.valT rfl (rv_elemAJ (q := 0) (0) as_62 rfl rfl (by first | rfl | omega) (by omega) (by first | rfl | omega)) rfl ?_ | refine GL.valG rfl (fun hb => rv_elemAJ (q := 0) (0) as_62 (by first | exact evb rfl hb | rfl) (by first | exact evb rfl hb | rfl) (by first | rfl | omega) (by omega) (by first | rfl | omega)) rfl ?_
        first | refine GL.skipG rfl rfl ?_ | refine GL.skipU rfl rfl ?_ | refine GL.valT rfl (rv_load ag_3 rfl (by first | exact Hd.cell (k := 0) rfl rfl | exact Hd.rowCell (k := 0) rfl (by assumption))) rfl ?_ | refine GL.valG rfl (fun hb => rv_load ag_3 (by first | exact evb rfl hb | rfl) (by first | exact Hd.cell (k := 0) (by first | exact evb rfl hb | rfl) (by first | exact evb rfl hb | rfl) | exact Hd.rowCell (k := 0) (by first | exact evb rfl hb | rfl) (by assumption))) rfl ?_
        first | refine GL.skipG rfl rfl ?_ | refine GL.skipU rfl rfl ?_ | refine GL.valT rfl ((by first | exact rv_to (v' := .bool true) (rv_geq rfl rfl) (by simp only [Value.bool.injEq, decide_eq_true_eq, decide_eq_false_iff_not]; first | assumption | omega) | exact rv_to (v' := .bool false) (rv_geq rfl rfl) (by simp only [Value.bool.injEq, decide_eq_true_eq, decide_eq_false_iff_not]; first | assumption | omega))) rfl ?_ | refine GL.valG rfl (fun hb => (by first | exact rv_to (v' := .bool true) (rv_geq (by first | exact evb rfl hb | rfl) (by first | exact evb rfl hb | rfl)) (by simp only [Value.bool.injEq, decide_eq_true_eq, decide_eq_false_iff_not]; first | assumption | omega) | exact rv_to (v' := .bool false) (rv_geq (by first | exact evb rfl hb | rfl) (by first | exact evb rfl hb | rfl)) (by simp only [Value.bool.injEq, decide_eq_true_eq, decide_eq_false_iff_not]; first | assumption | omega))) rfl ?_
        refine GL.val ((by first | exact rv_andT rfl rfl rfl | exact rv_andF rfl rfl rfl | exact rv_pickAnd rfl rfl rfl)) rfl ?_
        refine GL.val (rv_move rfl) rfl ?_
        first | refine GL.skipG rfl rfl ?_ | refine GL.skipU rfl rfl ?_ | refine GL.valT rfl (rv_move rfl) rfl ?_ | refine GL.valG rfl (fun hb => rv_move (by first | exact evb rfl hb | rfl)) rfl ?_
        first | refine GL.skipG rfl rfl ?_ | refine GL.skipU rfl rfl ?_ | refine GL.valT rfl (rv_lenSl Try.underlying28 rfl) rfl ?_ | refine GL.valG rfl (fun hb => rv_lenSl Try.underlying28 (by first | exact evb rfl hb | rfl)) rfl ?_
        first | refine GL.skipG rfl rfl ?_ | refine GL.skipU rfl rfl ?_ | refine GL.valT rfl (rv_elemAJ (q := 1) (1) as_62 rfl rfl (by first | rfl | omega) (by omega) (by first | rfl | omega)) rfl ?_ | refine GL.valG rfl (fun hb => rv_elemAJ (q := 1) (1) as_62 (by first | exact evb rfl hb | rfl) (by first | exact evb rfl hb | rfl) (by first | rfl | omega) (by omega) (by first | rfl | omega)) rfl ?_
        first | refine GL.skipG rfl rfl ?_ | refine GL.skipU rfl rfl ?_ | refine GL.valT rfl (rv_load ag_3 rfl (by first | exact Hd.cell (k := 0) rfl rfl | exact Hd.rowCell (k := 0) rfl (by assumption))) rfl ?_ | refine GL.valG rfl (fun hb => rv_load ag_3 (by first | exact evb rfl hb | rfl) (by first | exact Hd.cell (k := 0) (by first | exact evb rfl hb | rfl) (by first | exact evb rfl hb | rfl) | exact Hd.rowCell (k := 0) (by first | exact evb rfl hb | rfl) (by assumption))) rfl ?_
        first | refine GL.skipG rfl rfl ?_ | refine GL.skipU rfl rfl ?_ | refine GL.valT rfl ((by first | exact rv_to (v' := .bool true) (rv_leq rfl rfl) (by simp only [Value.bool.injEq, decide_eq_true_eq, decide_eq_false_iff_not]; first | assumption | omega) | exact rv_to (v' := .bool false) (rv_leq rfl rfl) (by simp only [Value.bool.injEq, decide_eq_true_eq, decide_eq_false_iff_not]; first | assumption | omega))) rfl ?_ | refine GL.valG rfl (fun hb => (by first | exact rv_to (v' := .bool true) (rv_leq (by first | exact evb rfl hb | rfl) (by first | exact evb rfl hb | rfl)) (by simp only [Value.bool.injEq, decide_eq_true_eq, decide_eq_false_iff_not]; first | assumption | omega) | exact rv_to (v' := .bool false) (rv_leq (by first | exact evb rfl hb | rfl) (by first | exact evb rfl hb | rfl)) (by simp only [Value.bool.injEq, decide_eq_true_eq, decide_eq_false_iff_not]; first | assumption | omega))) rfl ?_
        refine GL.val ((by first | exact rv_andT rfl rfl rfl | exact rv_andF rfl rfl rfl | exact rv_pickAnd rfl rfl rfl)) rfl ?_
        refine GL.nil ?_
        exact GX.cutq () trivial (by repeat (first | exact Sub.nil | refine Sub.cons rfl ?_)) (fun w9 h => by
            exact h)
    refine GX.then ?_
    first | refine GC.condP rfl (fun c38 => ?_) (fun c38 => ?_) | refine GC.cond rfl (fun c38 => ?_) (fun c38 => ?_)
    · refine GC.seq ?_
      refine GC.reg ?_
      refine GL.val (rv_move rfl) rfl ?_
      refine GL.val (rv_elem es_28 rfl rfl (by omega) (by omega)) rfl ?_
      refine GL.val (rv_load ag_5 rfl (Hd.cell0 (Sh.byC hC (j := 0) (by simp)) (fun h => h))) rfl ?_
      refine GL.val (rv_assign rfl) rfl ?_
      refine GL.nil ?_
      refine GX.then ?_
      refine GC.ret ?_
      refine GX.then_ret ?_
      refine GX.ret1 rfl (RR.tmp rfl) ?_
      exact fun w9 h => ⟨(), (by rw [hk1 c38]; rfl), by
          have h := h.sel [] rfl rfl
          exact h, trivial⟩
    · refine GC.skip ?_
      refine GX.then ?_
      refine GC.seq ?_
      refine GC.reg ?_
      refine GL.val (rv_assign rfl) rfl ?_
      refine GL.nil ?_
      refine GX.then ?_
      refine GC.ret ?_
      refine GX.ret1 rfl (RR.tmp rfl) ?_
      exact fun w9 h => ⟨(), (by rw [hk0 c38]; rfl), by
          have h := h.sel [] rfl rfl
          exact h, trivial⟩
set_option maxRecDepth 100000 in
set_option maxHeartbeats 1000000 in
theorem kind_86 (b o n c : Nat) (bs : Sh.B) (w : World) (hC : Cells w b o (byts bs)) (hl : bs.length = n) (hn : n < 4611686018427387904) (h1 : bs.getD 0 0 = 86) (h0 : 0 < n) : Calls Try.prog 27 [.slice (some ⟨b, o, none⟩) n c].toArray w fun e w' => ∃ _g : Unit, e = .returned (v8 (kind bs)) ∧ St noB w w' [] ∧ True := by
  refine GC.calls Try.func27 rfl rfl (St.begin _) ?_
  obtain ⟨c0, r, rfl⟩ : ∃ c0 r, bs = c0 :: r := by cases bs with | nil => simp at hl; omega | cons c0 r => exact ⟨c0, r, rfl⟩
  rw [List.length_cons] at hl
  simp only [List.getD_cons_zero] at h1
  subst h1
  have hk1 : 49 ≤ n ∧ n ≤ 1073741824 → kind (86 :: r) = 86 := fun h => by rw [kind, if_pos (.inr (.inr (.inr ⟨rfl, by omega, by omega⟩)))]
  have hk0 : ¬ (49 ≤ n ∧ n ≤ 1073741824) → kind (86 :: r) = 0 := fun h => by rw [kind, if_neg (fun q => by rcases q with ⟨e, q⟩ | ⟨e, q⟩ | ⟨e, q⟩ | ⟨e, q1, q2⟩ <;> first | omega | exact absurd e (by decide))]
  refine GC.seq ?_
  refine GC.reg ?_
  refine GL.val (rv_assign rfl) rfl ?_
  refine GL.nil ?_
  refine GX.then ?_
  refine GC.seq ?_
  refine GC.reg ?_
  refine GL.step (ot_makeMap rfl fun r6 => ?_)
  refine GL.val (rv_buildA as_62 zb_62 rfl rfl rfl rfl) rfl ?_
  refine GL.step (ot_insert (k := 0) Try.underlying63 Try.underlying5 rfl rfl rfl rfl (by rfl) ?_)
  refine GL.val (rv_buildA as_62 zb_62 rfl rfl rfl rfl) rfl ?_
  refine GL.step (ot_insert (k := 0) Try.underlying63 Try.underlying5 rfl rfl rfl rfl (by rfl) ?_)
  refine GL.val (rv_buildA as_62 zb_62 rfl rfl rfl rfl) rfl ?_
  refine GL.step (ot_insert (k := 0) Try.underlying63 Try.underlying5 rfl rfl rfl rfl (by rfl) ?_)
  refine GL.val (rv_buildA as_62 zb_62 rfl rfl rfl rfl) rfl ?_
  refine GL.step (ot_insert (k := 0) Try.underlying63 Try.underlying5 rfl rfl rfl rfl (by rfl) ?_)
  refine GL.val (rv_buildA as_62 zb_62 rfl rfl rfl rfl) rfl ?_
  refine GL.step (ot_insert (k := 0) Try.underlying63 Try.underlying5 rfl rfl rfl rfl (by rfl) ?_)
  refine GL.val (rv_move rfl) rfl ?_
  refine GL.val (rv_assign rfl) rfl ?_
  refine GL.nil ?_
  refine GX.then ?_
  refine GC.seq ?_
  refine GC.seq ?_
  refine GC.reg ?_
  refine GL.val (rv_move rfl) rfl ?_
  refine GL.val (rv_lenSl Try.underlying28 rfl) rfl ?_
  refine GL.val (rv_eqI rfl rfl) rfl ?_
  refine GL.nil ?_
  refine GX.then ?_
  first | refine GC.condP rfl (fun c15 => ?_) (fun c15 => ?_) | refine GC.cond rfl (fun c15 => ?_) (fun c15 => ?_)
  · exact absurd c15 (by omega)
  · refine GC.skip ?_
    refine GX.then ?_
    refine GC.seq ?_
    refine GC.seq ?_
    refine GC.reg ?_
    refine GL.val (rv_move rfl) rfl ?_
    refine GL.val (rv_move rfl) rfl ?_
    refine GL.val (rv_elem es_28 rfl rfl (by omega) (by omega)) rfl ?_
    refine GL.val (rv_load ag_5 rfl (Hd.cell0 (Sh.byC hC (j := 0) (by simp)) (fun h => h))) rfl ?_
    refine GL.val (rv_lookup (k := 0) (z := 86) Try.underlying63 Try.underlying5 rfl rfl rfl zb_62 rfl rfl) rfl ?_
    refine GL.val (rv_move rfl) rfl ?_
    refine GL.val (rv_extract rfl rfl) rfl ?_
    refine GL.val (rv_extract rfl rfl) rfl ?_
    refine GL.step (ot_alloc (zs := [.int .i64 0, .int .i64 0]) zb_62 rfl rfl fun b4 => ?_)
    refine GL.step (ot_storeA (k := 0) rfl rfl rfl rfl (by exact sz_62) (by first | (fail) | rfl) (by first | (fail) | rfl) (by rfl) ?_)
    refine GL.val (rv_assign rfl) rfl ?_
    refine GL.nil ?_
    refine GX.then ?_
    refine GC.seq ?_
    refine GC.cutq (γ := Unit) [0] [1, 0] (fun g Lk => (38, .bool (decide (49 ≤ n ∧ n ≤ 1073741824))) :: Lk) (fun g Fk => Fk) (fun g => True) rfl rfl ?_ (fun _ _ => ?_)
    · rcases (by omega : n < 49 ∨ (49 ≤ n ∧ 1073741824 < n) ∨ (49 ≤ n ∧ n ≤ 1073741824)) with h | h | h
      · rw [show decide (49 ≤ n ∧ n ≤ 1073741824) = false from decide_eq_false (by omega)]
        refine GC.reg ?_
        refine GL.val (rv_move rfl) rfl ?_
        refine GL.val (rv_move rfl) rfl ?_
        first | refine GL.skipG rfl rfl ?_ | refine GL.skipU rfl rfl ?_ | refine GL.valT rfl (rv_move rfl) rfl ?_ | refine GL.valG rfl (fun hb => rv_move (by first | exact evb rfl hb | rfl)) rfl ?_
        first | refine GL.skipG rfl rfl ?_ | refine GL.skipU rfl rfl ?_ | refine GL.valT rfl (rv_lenSl Try.underlying28 rfl) rfl ?_ | refine GL.valG rfl (fun hb => rv_lenSl Try.underlying28 (by first | exact evb rfl hb | rfl)) rfl ?_
        first | refine GL.skipG rfl rfl ?_ | refine GL.skipU rfl rfl ?_ | refine GL.valT rfl (rv_elemAJ (q := 0) (0) as_62 rfl rfl (by first | rfl | omega) (by omega) (by first | rfl | omega)) rfl ?_ | refine GL.valG rfl (fun hb => rv_elemAJ (q := 0) (0) as_62 (by first | exact evb rfl hb | rfl) (by first | exact evb rfl hb | rfl) (by first | rfl | omega) (by omega) (by first | rfl | omega)) rfl ?_
        first | refine GL.skipG rfl rfl ?_ | refine GL.skipU rfl rfl ?_ | refine GL.valT rfl (rv_load ag_3 rfl (by first | exact Hd.cell (k := 0) rfl rfl | exact Hd.rowCell (k := 0) rfl (by assumption))) rfl ?_ | refine GL.valG rfl (fun hb => rv_load ag_3 (by first | exact evb rfl hb | rfl) (by first | exact Hd.cell (k := 0) (by first | exact evb rfl hb | rfl) (by first | exact evb rfl hb | rfl) | exact Hd.rowCell (k := 0) (by first | exact evb rfl hb | rfl) (by assumption))) rfl ?_
        first | refine GL.skipG rfl rfl ?_ | refine GL.skipU rfl rfl ?_ | refine GL.valT rfl ((by first | exact rv_to (v' := .bool true) (rv_geq rfl rfl) (by simp only [Value.bool.injEq, decide_eq_true_eq, decide_eq_false_iff_not]; first | assumption | omega) | exact rv_to (v' := .bool false) (rv_geq rfl rfl) (by simp only [Value.bool.injEq, decide_eq_true_eq, decide_eq_false_iff_not]; first | assumption | omega))) rfl ?_ | refine GL.valG rfl (fun hb => (by first | exact rv_to (v' := .bool true) (rv_geq (by first | exact evb rfl hb | rfl) (by first | exact evb rfl hb | rfl)) (by simp only [Value.bool.injEq, decide_eq_true_eq, decide_eq_false_iff_not]; first | assumption | omega) | exact rv_to (v' := .bool false) (rv_geq (by first | exact evb rfl hb | rfl) (by first | exact evb rfl hb | rfl)) (by simp only [Value.bool.injEq, decide_eq_true_eq, decide_eq_false_iff_not]; first | assumption | omega))) rfl ?_
        refine GL.val ((by first | exact rv_andT rfl rfl rfl | exact rv_andF rfl rfl rfl | exact rv_pickAnd rfl rfl rfl)) rfl ?_
        refine GL.val (rv_move rfl) rfl ?_
        first | refine GL.skipG rfl rfl ?_ | refine GL.skipU rfl rfl ?_ | refine GL.valT rfl (rv_move rfl) rfl ?_ | refine GL.valG rfl (fun hb => rv_move (by first | exact evb rfl hb | rfl)) rfl ?_
        first | refine GL.skipG rfl rfl ?_ | refine GL.skipU rfl rfl ?_ | refine GL.valT rfl (rv_lenSl Try.underlying28 rfl) rfl ?_ | refine GL.valG rfl (fun hb => rv_lenSl Try.underlying28 (by first | exact evb rfl hb | rfl)) rfl ?_
        first | refine GL.skipG rfl rfl ?_ | refine GL.skipU rfl rfl ?_ | refine GL.valT rfl (rv_elemAJ (q := 1) (1) as_62 rfl rfl (by first | rfl | omega) (by omega) (by first | rfl | omega)) rfl ?_ | refine GL.valG rfl (fun hb => rv_elemAJ (q := 1) (1) as_62 (by first | exact evb rfl hb | rfl) (by first | exact evb rfl hb | rfl) (by first | rfl | omega) (by omega) (by first | rfl | omega)) rfl ?_
        first | refine GL.skipG rfl rfl ?_ | refine GL.skipU rfl rfl ?_ | refine GL.valT rfl (rv_load ag_3 rfl (by first | exact Hd.cell (k := 0) rfl rfl | exact Hd.rowCell (k := 0) rfl (by assumption))) rfl ?_ | refine GL.valG rfl (fun hb => rv_load ag_3 (by first | exact evb rfl hb | rfl) (by first | exact Hd.cell (k := 0) (by first | exact evb rfl hb | rfl) (by first | exact evb rfl hb | rfl) | exact Hd.rowCell (k := 0) (by first | exact evb rfl hb | rfl) (by assumption))) rfl ?_
        first | refine GL.skipG rfl rfl ?_ | refine GL.skipU rfl rfl ?_ | refine GL.valT rfl ((by first | exact rv_to (v' := .bool true) (rv_leq rfl rfl) (by simp only [Value.bool.injEq, decide_eq_true_eq, decide_eq_false_iff_not]; first | assumption | omega) | exact rv_to (v' := .bool false) (rv_leq rfl rfl) (by simp only [Value.bool.injEq, decide_eq_true_eq, decide_eq_false_iff_not]; first | assumption | omega))) rfl ?_ | refine GL.valG rfl (fun hb => (by first | exact rv_to (v' := .bool true) (rv_leq (by first | exact evb rfl hb | rfl) (by first | exact evb rfl hb | rfl)) (by simp only [Value.bool.injEq, decide_eq_true_eq, decide_eq_false_iff_not]; first | assumption | omega) | exact rv_to (v' := .bool false) (rv_leq (by first | exact evb rfl hb | rfl) (by first | exact evb rfl hb | rfl)) (by simp only [Value.bool.injEq, decide_eq_true_eq, decide_eq_false_iff_not]; first | assumption | omega))) rfl ?_
        refine GL.val ((by first | exact rv_andT rfl rfl rfl | exact rv_andF rfl rfl rfl | exact rv_pickAnd rfl rfl rfl)) rfl ?_
        refine GL.nil ?_
        exact GX.cutq () trivial (by repeat (first | exact Sub.nil | refine Sub.cons rfl ?_)) (fun w9 h => by
            exact h)
      · rw [show decide (49 ≤ n ∧ n ≤ 1073741824) = false from decide_eq_false (by omega)]
        refine GC.reg ?_
        refine GL.val (rv_move rfl) rfl ?_
        refine GL.val (rv_move rfl) rfl ?_
        first | refine GL.skipG rfl rfl ?_ | refine GL.skipU rfl rfl ?_ | refine GL.valT rfl (rv_move rfl) rfl ?_ | refine GL.valG rfl (fun hb => rv_move (by first | exact evb rfl hb | rfl)) rfl ?_
        first | refine GL.skipG rfl rfl ?_ | refine GL.skipU rfl rfl ?_ | refine GL.valT rfl (rv_lenSl Try.underlying28 rfl) rfl ?_ | refine GL.valG rfl (fun hb => rv_lenSl Try.underlying28 (by first | exact evb rfl hb | rfl)) rfl ?_
        first | refine GL.skipG rfl rfl ?_ | refine GL.skipU rfl rfl ?_ | refine GL.valT rfl (rv_elemAJ (q := 0) (0) as_62 rfl rfl (by first | rfl | omega) (by omega) (by first | rfl | omega)) rfl ?_ | refine GL.valG rfl (fun hb => rv_elemAJ (q := 0) (0) as_62 (by first | exact evb rfl hb | rfl) (by first | exact evb rfl hb | rfl) (by first | rfl | omega) (by omega) (by first | rfl | omega)) rfl ?_
        first | refine GL.skipG rfl rfl ?_ | refine GL.skipU rfl rfl ?_ | refine GL.valT rfl (rv_load ag_3 rfl (by first | exact Hd.cell (k := 0) rfl rfl | exact Hd.rowCell (k := 0) rfl (by assumption))) rfl ?_ | refine GL.valG rfl (fun hb => rv_load ag_3 (by first | exact evb rfl hb | rfl) (by first | exact Hd.cell (k := 0) (by first | exact evb rfl hb | rfl) (by first | exact evb rfl hb | rfl) | exact Hd.rowCell (k := 0) (by first | exact evb rfl hb | rfl) (by assumption))) rfl ?_
        first | refine GL.skipG rfl rfl ?_ | refine GL.skipU rfl rfl ?_ | refine GL.valT rfl ((by first | exact rv_to (v' := .bool true) (rv_geq rfl rfl) (by simp only [Value.bool.injEq, decide_eq_true_eq, decide_eq_false_iff_not]; first | assumption | omega) | exact rv_to (v' := .bool false) (rv_geq rfl rfl) (by simp only [Value.bool.injEq, decide_eq_true_eq, decide_eq_false_iff_not]; first | assumption | omega))) rfl ?_ | refine GL.valG rfl (fun hb => (by first | exact rv_to (v' := .bool true) (rv_geq (by first | exact evb rfl hb | rfl) (by first | exact evb rfl hb | rfl)) (by simp only [Value.bool.injEq, decide_eq_true_eq, decide_eq_false_iff_not]; first | assumption | omega) | exact rv_to (v' := .bool false) (rv_geq (by first | exact evb rfl hb | rfl) (by first | exact evb rfl hb | rfl)) (by simp only [Value.bool.injEq, decide_eq_true_eq, decide_eq_false_iff_not]; first | assumption | omega))) rfl ?_
        refine GL.val ((by first | exact rv_andT rfl rfl rfl | exact rv_andF rfl rfl rfl | exact rv_pickAnd rfl rfl rfl)) rfl ?_
        refine GL.val (rv_move rfl) rfl ?_
        first | refine GL.skipG rfl rfl ?_ | refine GL.skipU rfl rfl ?_ | refine GL.valT rfl (rv_move rfl) rfl ?_ | refine GL.valG rfl (fun hb => rv_move (by first | exact evb rfl hb | rfl)) rfl ?_
        first | refine GL.skipG rfl rfl ?_ | refine GL.skipU rfl rfl ?_ | refine GL.valT rfl (rv_lenSl Try.underlying28 rfl) rfl ?_ | refine GL.valG rfl (fun hb => rv_lenSl Try.underlying28 (by first | exact evb rfl hb | rfl)) rfl ?_
        first | refine GL.skipG rfl rfl ?_ | refine GL.skipU rfl rfl ?_ | refine GL.valT rfl (rv_elemAJ (q := 1) (1) as_62 rfl rfl (by first | rfl | omega) (by omega) (by first | rfl | omega)) rfl ?_ | refine GL.valG rfl (fun hb => rv_elemAJ (q := 1) (1) as_62 (by first | exact evb rfl hb | rfl) (by first | exact evb rfl hb | rfl) (by first | rfl | omega) (by omega) (by first | rfl | omega)) rfl ?_
        first | refine GL.skipG rfl rfl ?_ | refine GL.skipU rfl rfl ?_ | refine GL.valT rfl (rv_load ag_3 rfl (by first | exact Hd.cell (k := 0) rfl rfl | exact Hd.rowCell (k := 0) rfl (by assumption))) rfl ?_ | refine GL.valG rfl (fun hb => rv_load ag_3 (by first | exact evb rfl hb | rfl) (by first | exact Hd.cell (k := 0) (by first | exact evb rfl hb | rfl) (by first | exact evb rfl hb | rfl) | exact Hd.rowCell (k := 0) (by first | exact evb rfl hb | rfl) (by assumption))) rfl ?_
        first | refine GL.skipG rfl rfl ?_ | refine GL.skipU rfl rfl ?_ | refine GL.valT rfl ((by first | exact rv_to (v' := .bool true) (rv_leq rfl rfl) (by simp only [Value.bool.injEq, decide_eq_true_eq, decide_eq_false_iff_not]; first | assumption | omega) | exact rv_to (v' := .bool false) (rv_leq rfl rfl) (by simp only [Value.bool.injEq, decide_eq_true_eq, decide_eq_false_iff_not]; first | assumption | omega))) rfl ?_ | refine GL.valG rfl (fun hb => (by first | exact rv_to (v' := .bool true) (rv_leq (by first | exact evb rfl hb | rfl) (by first | exact evb rfl hb | rfl)) (by simp only [Value.bool.injEq, decide_eq_true_eq, decide_eq_false_iff_not]; first | assumption | omega) | exact rv_to (v' := .bool false) (rv_leq (by first | exact evb rfl hb | rfl) (by first | exact evb rfl hb | rfl)) (by simp only [Value.bool.injEq, decide_eq_true_eq, decide_eq_false_iff_not]; first | assumption | omega))) rfl ?_
        refine GL.val ((by first | exact rv_andT rfl rfl rfl | exact rv_andF rfl rfl rfl | exact rv_pickAnd rfl rfl rfl)) rfl ?_
        refine GL.nil ?_
        exact GX.cutq () trivial (by repeat (first | exact Sub.nil | refine Sub.cons rfl ?_)) (fun w9 h => by
            exact h)
      · rw [show decide (49 ≤ n ∧ n ≤ 1073741824) = true from decide_eq_true (by omega)]
        refine GC.reg ?_
        refine GL.val (rv_move rfl) rfl ?_
        refine GL.val (rv_move rfl) rfl ?_
        first | refine GL.skipG rfl rfl ?_ | refine GL.skipU rfl rfl ?_ | refine GL.valT rfl (rv_move rfl) rfl ?_ | refine GL.valG rfl (fun hb => rv_move (by first | exact evb rfl hb | rfl)) rfl ?_
        first | refine GL.skipG rfl rfl ?_ | refine GL.skipU rfl rfl ?_ | refine GL.valT rfl (rv_lenSl Try.underlying28 rfl) rfl ?_ | refine GL.valG rfl (fun hb => rv_lenSl Try.underlying28 (by first | exact evb rfl hb | rfl)) rfl ?_
        first | refine GL.skipG rfl rfl ?_ | refine GL.skipU rfl rfl ?_ | refine GL.valT rfl (rv_elemAJ (q := 0) (0) as_62 rfl rfl (by first | rfl | omega) (by omega) (by first | rfl | omega)) rfl ?_ | refine GL.valG rfl (fun hb => rv_elemAJ (q := 0) (0) as_62 (by first | exact evb rfl hb | rfl) (by first | exact evb rfl hb | rfl) (by first | rfl | omega) (by omega) (by first | rfl | omega)) rfl ?_
        first | refine GL.skipG rfl rfl ?_ | refine GL.skipU rfl rfl ?_ | refine GL.valT rfl (rv_load ag_3 rfl (by first | exact Hd.cell (k := 0) rfl rfl | exact Hd.rowCell (k := 0) rfl (by assumption))) rfl ?_ | refine GL.valG rfl (fun hb => rv_load ag_3 (by first | exact evb rfl hb | rfl) (by first | exact Hd.cell (k := 0) (by first | exact evb rfl hb | rfl) (by first | exact evb rfl hb | rfl) | exact Hd.rowCell (k := 0) (by first | exact evb rfl hb | rfl) (by assumption))) rfl ?_
        first | refine GL.skipG rfl rfl ?_ | refine GL.skipU rfl rfl ?_ | refine GL.valT rfl ((by first | exact rv_to (v' := .bool true) (rv_geq rfl rfl) (by simp only [Value.bool.injEq, decide_eq_true_eq, decide_eq_false_iff_not]; first | assumption | omega) | exact rv_to (v' := .bool false) (rv_geq rfl rfl) (by simp only [Value.bool.injEq, decide_eq_true_eq, decide_eq_false_iff_not]; first | assumption | omega))) rfl ?_ | refine GL.valG rfl (fun hb => (by first | exact rv_to (v' := .bool true) (rv_geq (by first | exact evb rfl hb | rfl) (by first | exact evb rfl hb | rfl)) (by simp only [Value.bool.injEq, decide_eq_true_eq, decide_eq_false_iff_not]; first | assumption | omega) | exact rv_to (v' := .bool false) (rv_geq (by first | exact evb rfl hb | rfl) (by first | exact evb rfl hb | rfl)) (by simp only [Value.bool.injEq, decide_eq_true_eq, decide_eq_false_iff_not]; first | assumption | omega))) rfl ?_
        refine GL.val ((by first | exact rv_andT rfl rfl rfl | exact rv_andF rfl rfl rfl | exact rv_pickAnd rfl rfl rfl)) rfl ?_
        refine GL.val (rv_move rfl) rfl ?_
        first | refine GL.skipG rfl rfl ?_ | refine GL.skipU rfl rfl ?_ | refine GL.valT rfl (rv_move rfl) rfl ?_ | refine GL.valG rfl (fun hb => rv_move (by first | exact evb rfl hb | rfl)) rfl ?_
        first | refine GL.skipG rfl rfl ?_ | refine GL.skipU rfl rfl ?_ | refine GL.valT rfl (rv_lenSl Try.underlying28 rfl) rfl ?_ | refine GL.valG rfl (fun hb => rv_lenSl Try.underlying28 (by first | exact evb rfl hb | rfl)) rfl ?_
        first | refine GL.skipG rfl rfl ?_ | refine GL.skipU rfl rfl ?_ | refine GL.valT rfl (rv_elemAJ (q := 1) (1) as_62 rfl rfl (by first | rfl | omega) (by omega) (by first | rfl | omega)) rfl ?_ | refine GL.valG rfl (fun hb => rv_elemAJ (q := 1) (1) as_62 (by first | exact evb rfl hb | rfl) (by first | exact evb rfl hb | rfl) (by first | rfl | omega) (by omega) (by first | rfl | omega)) rfl ?_
        first | refine GL.skipG rfl rfl ?_ | refine GL.skipU rfl rfl ?_ | refine GL.valT rfl (rv_load ag_3 rfl (by first | exact Hd.cell (k := 0) rfl rfl | exact Hd.rowCell (k := 0) rfl (by assumption))) rfl ?_ | refine GL.valG rfl (fun hb => rv_load ag_3 (by first | exact evb rfl hb | rfl) (by first | exact Hd.cell (k := 0) (by first | exact evb rfl hb | rfl) (by first | exact evb rfl hb | rfl) | exact Hd.rowCell (k := 0) (by first | exact evb rfl hb | rfl) (by assumption))) rfl ?_
        first | refine GL.skipG rfl rfl ?_ | refine GL.skipU rfl rfl ?_ | refine GL.valT rfl ((by first | exact rv_to (v' := .bool true) (rv_leq rfl rfl) (by simp only [Value.bool.injEq, decide_eq_true_eq, decide_eq_false_iff_not]; first | assumption | omega) | exact rv_to (v' := .bool false) (rv_leq rfl rfl) (by simp only [Value.bool.injEq, decide_eq_true_eq, decide_eq_false_iff_not]; first | assumption | omega))) rfl ?_ | refine GL.valG rfl (fun hb => (by first | exact rv_to (v' := .bool true) (rv_leq (by first | exact evb rfl hb | rfl) (by first | exact evb rfl hb | rfl)) (by simp only [Value.bool.injEq, decide_eq_true_eq, decide_eq_false_iff_not]; first | assumption | omega) | exact rv_to (v' := .bool false) (rv_leq (by first | exact evb rfl hb | rfl) (by first | exact evb rfl hb | rfl)) (by simp only [Value.bool.injEq, decide_eq_true_eq, decide_eq_false_iff_not]; first | assumption | omega))) rfl ?_
        refine GL.val ((by first | exact rv_andT rfl rfl rfl | exact rv_andF rfl rfl rfl | exact rv_pickAnd rfl rfl rfl)) rfl ?_
        refine GL.nil ?_
        exact GX.cutq () trivial (by repeat (first | exact Sub.nil | refine Sub.cons rfl ?_)) (fun w9 h => by
            exact h)
    refine GX.then ?_
    first | refine GC.condP rfl (fun c38 => ?_) (fun c38 => ?_) | refine GC.cond rfl (fun c38 => ?_) (fun c38 => ?_)
    · refine GC.seq ?_
      refine GC.reg ?_
      refine GL.val (rv_move rfl) rfl ?_
      refine GL.val (rv_elem es_28 rfl rfl (by omega) (by omega)) rfl ?_
      refine GL.val (rv_load ag_5 rfl (Hd.cell0 (Sh.byC hC (j := 0) (by simp)) (fun h => h))) rfl ?_
      refine GL.val (rv_assign rfl) rfl ?_
      refine GL.nil ?_
      refine GX.then ?_
      refine GC.ret ?_
      refine GX.then_ret ?_
      refine GX.ret1 rfl (RR.tmp rfl) ?_
      exact fun w9 h => ⟨(), (by rw [hk1 c38]; rfl), by
          have h := h.sel [] rfl rfl
          exact h, trivial⟩
    · refine GC.skip ?_
      refine GX.then ?_
      refine GC.seq ?_
      refine GC.reg ?_
      refine GL.val (rv_assign rfl) rfl ?_
      refine GL.nil ?_
      refine GX.then ?_
      refine GC.ret ?_
      refine GX.ret1 rfl (RR.tmp rfl) ?_
      exact fun w9 h => ⟨(), (by rw [hk0 c38]; rfl), by
          have h := h.sel [] rfl rfl
          exact h, trivial⟩
set_option maxRecDepth 100000 in
set_option maxHeartbeats 1000000 in
theorem kind_82 (b o n c : Nat) (bs : Sh.B) (w : World) (hC : Cells w b o (byts bs)) (hl : bs.length = n) (hn : n < 4611686018427387904) (h1 : bs.getD 0 0 = 82) (h0 : 0 < n) : Calls Try.prog 27 [.slice (some ⟨b, o, none⟩) n c].toArray w fun e w' => ∃ _g : Unit, e = .returned (v8 (kind bs)) ∧ St noB w w' [] ∧ True := by
  refine GC.calls Try.func27 rfl rfl (St.begin _) ?_
  obtain ⟨c0, r, rfl⟩ : ∃ c0 r, bs = c0 :: r := by cases bs with | nil => simp at hl; omega | cons c0 r => exact ⟨c0, r, rfl⟩
  rw [List.length_cons] at hl
  simp only [List.getD_cons_zero] at h1
  subst h1
  have hk1 : 105 ≤ n ∧ n ≤ 105 → kind (82 :: r) = 82 := fun h => by rw [kind, if_pos (.inr (.inr (.inl ⟨rfl, by omega⟩)))]
  have hk0 : ¬ (105 ≤ n ∧ n ≤ 105) → kind (82 :: r) = 0 := fun h => by rw [kind, if_neg (fun q => by rcases q with ⟨e, q⟩ | ⟨e, q⟩ | ⟨e, q⟩ | ⟨e, q1, q2⟩ <;> first | omega | exact absurd e (by decide))]
  refine GC.seq ?_
  refine GC.reg ?_
  refine GL.val (rv_assign rfl) rfl ?_
  refine GL.nil ?_
  refine GX.then ?_
  refine GC.seq ?_
  refine GC.reg ?_
  refine GL.step (ot_makeMap rfl fun r6 => ?_)
  refine GL.val (rv_buildA as_62 zb_62 rfl rfl rfl rfl) rfl ?_
  refine GL.step (ot_insert (k := 0) Try.underlying63 Try.underlying5 rfl rfl rfl rfl (by rfl) ?_)
  refine GL.val (rv_buildA as_62 zb_62 rfl rfl rfl rfl) rfl ?_
  refine GL.step (ot_insert (k := 0) Try.underlying63 Try.underlying5 rfl rfl rfl rfl (by rfl) ?_)
  refine GL.val (rv_buildA as_62 zb_62 rfl rfl rfl rfl) rfl ?_
  refine GL.step (ot_insert (k := 0) Try.underlying63 Try.underlying5 rfl rfl rfl rfl (by rfl) ?_)
  refine GL.val (rv_buildA as_62 zb_62 rfl rfl rfl rfl) rfl ?_
  refine GL.step (ot_insert (k := 0) Try.underlying63 Try.underlying5 rfl rfl rfl rfl (by rfl) ?_)
  refine GL.val (rv_buildA as_62 zb_62 rfl rfl rfl rfl) rfl ?_
  refine GL.step (ot_insert (k := 0) Try.underlying63 Try.underlying5 rfl rfl rfl rfl (by rfl) ?_)
  refine GL.val (rv_move rfl) rfl ?_
  refine GL.val (rv_assign rfl) rfl ?_
  refine GL.nil ?_
  refine GX.then ?_
  refine GC.seq ?_
  refine GC.seq ?_
  refine GC.reg ?_
  refine GL.val (rv_move rfl) rfl ?_
  refine GL.val (rv_lenSl Try.underlying28 rfl) rfl ?_
  refine GL.val (rv_eqI rfl rfl) rfl ?_
  refine GL.nil ?_
  refine GX.then ?_
  first | refine GC.condP rfl (fun c15 => ?_) (fun c15 => ?_) | refine GC.cond rfl (fun c15 => ?_) (fun c15 => ?_)
  · exact absurd c15 (by omega)
  · refine GC.skip ?_
    refine GX.then ?_
    refine GC.seq ?_
    refine GC.seq ?_
    refine GC.reg ?_
    refine GL.val (rv_move rfl) rfl ?_
    refine GL.val (rv_move rfl) rfl ?_
    refine GL.val (rv_elem es_28 rfl rfl (by omega) (by omega)) rfl ?_
    refine GL.val (rv_load ag_5 rfl (Hd.cell0 (Sh.byC hC (j := 0) (by simp)) (fun h => h))) rfl ?_
    refine GL.val (rv_lookup (k := 0) (z := 82) Try.underlying63 Try.underlying5 rfl rfl rfl zb_62 rfl rfl) rfl ?_
    refine GL.val (rv_move rfl) rfl ?_
    refine GL.val (rv_extract rfl rfl) rfl ?_
    refine GL.val (rv_extract rfl rfl) rfl ?_
    refine GL.step (ot_alloc (zs := [.int .i64 0, .int .i64 0]) zb_62 rfl rfl fun b4 => ?_)
    refine GL.step (ot_storeA (k := 0) rfl rfl rfl rfl (by exact sz_62) (by first | (fail) | rfl) (by first | (fail) | rfl) (by rfl) ?_)
    refine GL.val (rv_assign rfl) rfl ?_
    refine GL.nil ?_
    refine GX.then ?_
    refine GC.seq ?_
    refine GC.cutq (γ := Unit) [0] [1, 0] (fun g Lk => (38, .bool (decide (105 ≤ n ∧ n ≤ 105))) :: Lk) (fun g Fk => Fk) (fun g => True) rfl rfl ?_ (fun _ _ => ?_)
    · rcases (by omega : n < 105 ∨ (105 ≤ n ∧ 105 < n) ∨ (105 ≤ n ∧ n ≤ 105)) with h | h | h
      · rw [show decide (105 ≤ n ∧ n ≤ 105) = false from decide_eq_false (by omega)]
        refine GC.reg ?_
        refine GL.val (rv_move rfl) rfl ?_
        refine GL.val (rv_move rfl) rfl ?_
        first | refine GL.skipG rfl rfl ?_ | refine GL.skipU rfl rfl ?_ | refine GL.valT rfl (rv_move rfl) rfl ?_ | refine GL.valG rfl (fun hb => rv_move (by first | exact evb rfl hb | rfl)) rfl ?_
        first | refine GL.skipG rfl rfl ?_ | refine GL.skipU rfl rfl ?_ | refine GL.valT rfl (rv_lenSl Try.underlying28 rfl) rfl ?_ | refine GL.valG rfl (fun hb => rv_lenSl Try.underlying28 (by first | exact evb rfl hb | rfl)) rfl ?_
        first | refine GL.skipG rfl rfl ?_ | refine GL.skipU rfl rfl ?_ | refine GL.valT rfl (rv_elemAJ (q := 0) (0) as_62 rfl rfl (by first | rfl | omega) (by omega) (by first | rfl | omega)) rfl ?_ | refine GL.valG rfl (fun hb => rv_elemAJ (q := 0) (0) as_62 (by first | exact evb rfl hb | rfl) (by first | exact evb rfl hb | rfl) (by first | rfl | omega) (by omega) (by first | rfl | omega)) rfl ?_
        first | refine GL.skipG rfl rfl ?_ | refine GL.skipU rfl rfl ?_ | refine GL.valT rfl (rv_load ag_3 rfl (by first | exact Hd.cell (k := 0) rfl rfl | exact Hd.rowCell (k := 0) rfl (by assumption))) rfl ?_ | refine GL.valG rfl (fun hb => rv_load ag_3 (by first | exact evb rfl hb | rfl) (by first | exact Hd.cell (k := 0) (by first | exact evb rfl hb | rfl) (by first | exact evb rfl hb | rfl) | exact Hd.rowCell (k := 0) (by first | exact evb rfl hb | rfl) (by assumption))) rfl ?_
        first | refine GL.skipG rfl rfl ?_ | refine GL.skipU rfl rfl ?_ | refine GL.valT rfl ((by first | exact rv_to (v' := .bool true) (rv_geq rfl rfl) (by simp only [Value.bool.injEq, decide_eq_true_eq, decide_eq_false_iff_not]; first | assumption | omega) | exact rv_to (v' := .bool false) (rv_geq rfl rfl) (by simp only [Value.bool.injEq, decide_eq_true_eq, decide_eq_false_iff_not]; first | assumption | omega))) rfl ?_ | refine GL.valG rfl (fun hb => (by first | exact rv_to (v' := .bool true) (rv_geq (by first | exact evb rfl hb | rfl) (by first | exact evb rfl hb | rfl)) (by simp only [Value.bool.injEq, decide_eq_true_eq, decide_eq_false_iff_not]; first | assumption | omega) | exact rv_to (v' := .bool false) (rv_geq (by first | exact evb rfl hb | rfl) (by first | exact evb rfl hb | rfl)) (by simp only [Value.bool.injEq, decide_eq_true_eq, decide_eq_false_iff_not]; first | assumption | omega))) rfl ?_
        refine GL.val ((by first | exact rv_andT rfl rfl rfl | exact rv_andF rfl rfl rfl | exact rv_pickAnd rfl rfl rfl)) rfl ?_
        refine GL.val (rv_move rfl) rfl ?_
        first | refine GL.skipG rfl rfl ?_ | refine GL.skipU rfl rfl ?_ | refine GL.valT rfl (rv_move rfl) rfl ?_ | refine GL.valG rfl (fun hb => rv_move (by first | exact evb rfl hb | rfl)) rfl ?_
        first | refine GL.skipG rfl rfl ?_ | refine GL.skipU rfl rfl ?_ | refine GL.valT rfl (rv_lenSl Try.underlying28 rfl) rfl ?_ | refine GL.valG rfl (fun hb => rv_lenSl Try.underlying28 (by first | exact evb rfl hb | rfl)) rfl ?_
        first | refine GL.skipG rfl rfl ?_ | refine GL.skipU rfl rfl ?_ | refine GL.valT rfl (rv_elemAJ (q := 1) (1) as_62 rfl rfl (by first | rfl | omega) (by omega) (by first | rfl | omega)) rfl ?_ | refine GL.valG rfl (fun hb => rv_elemAJ (q := 1) (1) as_62 (by first | exact evb rfl hb | rfl) (by first | exact evb rfl hb | rfl) (by first | rfl | omega) (by omega) (by first | rfl | omega)) rfl ?_
        first | refine GL.skipG rfl rfl ?_ | refine GL.skipU rfl rfl ?_ | refine GL.valT rfl (rv_load ag_3 rfl (by first | exact Hd.cell (k := 0) rfl rfl | exact Hd.rowCell (k := 0) rfl (by assumption))) rfl ?_ | refine GL.valG rfl (fun hb => rv_load ag_3 (by first | exact evb rfl hb | rfl) (by first | exact Hd.cell (k := 0) (by first | exact evb rfl hb | rfl) (by first | exact evb rfl hb | rfl) | exact Hd.rowCell (k := 0) (by first | exact evb rfl hb | rfl) (by assumption))) rfl ?_
        first | refine GL.skipG rfl rfl ?_ | refine GL.skipU rfl rfl ?_ | refine GL.valT rfl ((by first | exact rv_to (v' := .bool true) (rv_leq rfl rfl) (by simp only [Value.bool.injEq, decide_eq_true_eq, decide_eq_false_iff_not]; first | assumption | omega) | exact rv_to (v' := .bool false) (rv_leq rfl rfl) (by simp only [Value.bool.injEq, decide_eq_true_eq, decide_eq_false_iff_not]; first | assumption | omega))) rfl ?_ | refine GL.valG rfl (fun hb => (by first | exact rv_to (v' := .bool true) (rv_leq (by first | exact evb rfl hb | rfl) (by first | exact evb rfl hb | rfl)) (by simp only [Value.bool.injEq, decide_eq_true_eq, decide_eq_false_iff_not]; first | assumption | omega) | exact rv_to (v' := .bool false) (rv_leq (by first | exact evb rfl hb | rfl) (by first | exact evb rfl hb | rfl)) (by simp only [Value.bool.injEq, decide_eq_true_eq, decide_eq_false_iff_not]; first | assumption | omega))) rfl ?_
        refine GL.val ((by first | exact rv_andT rfl rfl rfl | exact rv_andF rfl rfl rfl | exact rv_pickAnd rfl rfl rfl)) rfl ?_
        refine GL.nil ?_
        exact GX.cutq () trivial (by repeat (first | exact Sub.nil | refine Sub.cons rfl ?_)) (fun w9 h => by
            exact h)
      · rw [show decide (105 ≤ n ∧ n ≤ 105) = false from decide_eq_false (by omega)]
        refine GC.reg ?_
        refine GL.val (rv_move rfl) rfl ?_
        refine GL.val (rv_move rfl) rfl ?_
        first | refine GL.skipG rfl rfl ?_ | refine GL.skipU rfl rfl ?_ | refine GL.valT rfl (rv_move rfl) rfl ?_ | refine GL.valG rfl (fun hb => rv_move (by first | exact evb rfl hb | rfl)) rfl ?_
        first | refine GL.skipG rfl rfl ?_ | refine GL.skipU rfl rfl ?_ | refine GL.valT rfl (rv_lenSl Try.underlying28 rfl) rfl ?_ | refine GL.valG rfl (fun hb => rv_lenSl Try.underlying28 (by first | exact evb rfl hb | rfl)) rfl ?_
        first | refine GL.skipG rfl rfl ?_ | refine GL.skipU rfl rfl ?_ | refine GL.valT rfl (rv_elemAJ (q := 0) (0) as_62 rfl rfl (by first | rfl | omega) (by omega) (by first | rfl | omega)) rfl ?_ | refine GL.valG rfl (fun hb => rv_elemAJ (q := 0) (0) as_62 (by first | exact evb rfl hb | rfl) (by first | exact evb rfl hb | rfl) (by first | rfl | omega) (by omega) (by first | rfl | omega)) rfl ?_
        first | refine GL.skipG rfl rfl ?_ | refine GL.skipU rfl rfl ?_ | refine GL.valT rfl (rv_load ag_3 rfl (by first | exact Hd.cell (k := 0) rfl rfl | exact Hd.rowCell (k := 0) rfl (by assumption))) rfl ?_ | refine GL.valG rfl (fun hb => rv_load ag_3 (by first | exact evb rfl hb | rfl) (by first | exact Hd.cell (k := 0) (by first | exact evb rfl hb | rfl) (by first | exact evb rfl hb | rfl) | exact Hd.rowCell (k := 0) (by first | exact evb rfl hb | rfl) (by assumption))) rfl ?_
        first | refine GL.skipG rfl rfl ?_ | refine GL.skipU rfl rfl ?_ | refine GL.valT rfl ((by first | exact rv_to (v' := .bool true) (rv_geq rfl rfl) (by simp only [Value.bool.injEq, decide_eq_true_eq, decide_eq_false_iff_not]; first | assumption | omega) | exact rv_to (v' := .bool false) (rv_geq rfl rfl) (by simp only [Value.bool.injEq, decide_eq_true_eq, decide_eq_false_iff_not]; first | assumption | omega))) rfl ?_ | refine GL.valG rfl (fun hb => (by first | exact rv_to (v' := .bool true) (rv_geq (by first | exact evb rfl hb | rfl) (by first | exact evb rfl hb | rfl)) (by simp only [Value.bool.injEq, decide_eq_true_eq, decide_eq_false_iff_not]; first | assumption | omega) | exact rv_to (v' := .bool false) (rv_geq (by first | exact evb rfl hb | rfl) (by first | exact evb rfl hb | rfl)) (by simp only [Value.bool.injEq, decide_eq_true_eq, decide_eq_false_iff_not]; first | assumption | omega))) rfl ?_
        refine GL.val ((by first | exact rv_andT rfl rfl rfl | exact rv_andF rfl rfl rfl | exact rv_pickAnd rfl rfl rfl)) rfl ?_
        refine GL.val (rv_move rfl) rfl ?_
        first | refine GL.skipG rfl rfl ?_ | refine GL.skipU rfl rfl ?_ | refine GL.valT rfl (rv_move rfl) rfl ?_ | refine GL.valG rfl (fun hb => rv_move (by first | exact evb rfl hb | rfl)) rfl ?_
        first | refine GL.skipG rfl rfl ?_ | refine GL.skipU rfl rfl ?_ | refine GL.valT rfl (rv_lenSl Try.underlying28 rfl) rfl ?_ | refine GL.valG rfl (fun hb => rv_lenSl Try.underlying28 (by first | exact evb rfl hb | rfl)) rfl ?_
        first | refine GL.skipG rfl rfl ?_ | refine GL.skipU rfl rfl ?_ | refine GL.valT rfl (rv_elemAJ (q := 1) (1) as_62 rfl rfl (by first | rfl | omega) (by omega) (by first | rfl | omega)) rfl ?_ | refine GL.valG rfl (fun hb => rv_elemAJ (q := 1) (1) as_62 (by first | exact evb rfl hb | rfl) (by first | exact evb rfl hb | rfl) (by first | rfl | omega) (by omega) (by first | rfl | omega)) rfl ?_
        first | refine GL.skipG rfl rfl ?_ | refine GL.skipU rfl rfl ?_ | refine GL.valT rfl (rv_load ag_3 rfl (by first | exact Hd.cell (k := 0) rfl rfl | exact Hd.rowCell (k := 0) rfl (by assumption))) rfl ?_ | refine GL.valG rfl (fun hb => rv_load ag_3 (by first | exact evb rfl hb | rfl) (by first | exact Hd.cell (k := 0) (by first | exact evb rfl hb | rfl) (by first | exact evb rfl hb | rfl) | exact Hd.rowCell (k := 0) (by first | exact evb rfl hb | rfl) (by assumption))) rfl ?_
        first | refine GL.skipG rfl rfl ?_ | refine GL.skipU rfl rfl ?_ | refine GL.valT rfl ((by first | exact rv_to (v' := .bool true) (rv_leq rfl rfl) (by simp only [Value.bool.injEq, decide_eq_true_eq, decide_eq_false_iff_not]; first | assumption | omega) | exact rv_to (v' := .bool false) (rv_leq rfl rfl) (by simp only [Value.bool.injEq, decide_eq_true_eq, decide_eq_false_iff_not]; first | assumption | omega))) rfl ?_ | refine GL.valG rfl (fun hb => (by first | exact rv_to (v' := .bool true) (rv_leq (by first | exact evb rfl hb | rfl) (by first | exact evb rfl hb | rfl)) (by simp only [Value.bool.injEq, decide_eq_true_eq, decide_eq_false_iff_not]; first | assumption | omega) | exact rv_to (v' := .bool false) (rv_leq (by first | exact evb rfl hb | rfl) (by first | exact evb rfl hb | rfl)) (by simp only [Value.bool.injEq, decide_eq_true_eq, decide_eq_false_iff_not]; first | assumption | omega))) rfl ?_
        refine GL.val ((by first | exact rv_andT rfl rfl rfl | exact rv_andF rfl rfl rfl | exact rv_pickAnd rfl rfl rfl)) rfl ?_
        refine GL.nil ?_
        exact GX.cutq () trivial (by repeat (first | exact Sub.nil | refine Sub.cons rfl ?_)) (fun w9 h => by
            exact h)
      · rw [show decide (105 ≤ n ∧ n ≤ 105) = true from decide_eq_true (by omega)]
        refine GC.reg ?_
        refine GL.val (rv_move rfl) rfl ?_
        refine GL.val (rv_move rfl) rfl ?_
        first | refine GL.skipG rfl rfl ?_ | refine GL.skipU rfl rfl ?_ | refine GL.valT rfl (rv_move rfl) rfl ?_ | refine GL.valG rfl (fun hb => rv_move (by first | exact evb rfl hb | rfl)) rfl ?_
        first | refine GL.skipG rfl rfl ?_ | refine GL.skipU rfl rfl ?_ | refine GL.valT rfl (rv_lenSl Try.underlying28 rfl) rfl ?_ | refine GL.valG rfl (fun hb => rv_lenSl Try.underlying28 (by first | exact evb rfl hb | rfl)) rfl ?_
        first | refine GL.skipG rfl rfl ?_ | refine GL.skipU rfl rfl ?_ | refine GL.valT rfl (rv_elemAJ (q := 0) (0) as_62 rfl rfl (by first | rfl | omega) (by omega) (by first | rfl | omega)) rfl ?_ | refine GL.valG rfl (fun hb => rv_elemAJ (q := 0) (0) as_62 (by first | exact evb rfl hb | rfl) (by first | exact evb rfl hb | rfl) (by first | rfl | omega) (by omega) (by first | rfl | omega)) rfl ?_
        first | refine GL.skipG rfl rfl ?_ | refine GL.skipU rfl rfl ?_ | refine GL.valT rfl (rv_load ag_3 rfl (by first | exact Hd.cell (k := 0) rfl rfl | exact Hd.rowCell (k := 0) rfl (by assumption))) rfl ?_ | refine GL.valG rfl (fun hb => rv_load ag_3 (by first | exact evb rfl hb | rfl) (by first | exact Hd.cell (k := 0) (by first | exact evb rfl hb | rfl) (by first | exact evb rfl hb | rfl) | exact Hd.rowCell (k := 0) (by first | exact evb rfl hb | rfl) (by assumption))) rfl ?_
        first | refine GL.skipG rfl rfl ?_ | refine GL.skipU rfl rfl ?_ | refine GL.valT rfl ((by first | exact rv_to (v' := .bool true) (rv_geq rfl rfl) (by simp only [Value.bool.injEq, decide_eq_true_eq, decide_eq_false_iff_not]; first | assumption | omega) | exact rv_to (v' := .bool false) (rv_geq rfl rfl) (by simp only [Value.bool.injEq, decide_eq_true_eq, decide_eq_false_iff_not]; first | assumption | omega))) rfl ?_ | refine GL.valG rfl (fun hb => (by first | exact rv_to (v' := .bool true) (rv_geq (by first | exact evb rfl hb | rfl) (by first | exact evb rfl hb | rfl)) (by simp only [Value.bool.injEq, decide_eq_true_eq, decide_eq_false_iff_not]; first | assumption | omega) | exact rv_to (v' := .bool false) (rv_geq (by first | exact evb rfl hb | rfl) (by first | exact evb rfl hb | rfl)) (by simp only [Value.bool.injEq, decide_eq_true_eq, decide_eq_false_iff_not]; first | assumption | omega))) rfl ?_
        refine GL.val ((by first | exact rv_andT rfl rfl rfl | exact rv_andF rfl rfl rfl | exact rv_pickAnd rfl rfl rfl)) rfl ?_
        refine GL.val (rv_move rfl) rfl ?_
        first | refine GL.skipG rfl rfl ?_ | refine GL.skipU rfl rfl ?_ | refine GL.valT rfl (rv_move rfl) rfl ?_ | refine GL.valG rfl (fun hb => rv_move (by first | exact evb rfl hb | rfl)) rfl ?_
        first | refine GL.skipG rfl rfl ?_ | refine GL.skipU rfl rfl ?_ | refine GL.valT rfl (rv_lenSl Try.underlying28 rfl) rfl ?_ | refine GL.valG rfl (fun hb => rv_lenSl Try.underlying28 (by first | exact evb rfl hb | rfl)) rfl ?_
        first | refine GL.skipG rfl rfl ?_ | refine GL.skipU rfl rfl ?_ | refine GL.valT rfl (rv_elemAJ (q := 1) (1) as_62 rfl rfl (by first | rfl | omega) (by omega) (by first | rfl | omega)) rfl ?_ | refine GL.valG rfl (fun hb => rv_elemAJ (q := 1) (1) as_62 (by first | exact evb rfl hb | rfl) (by first | exact evb rfl hb | rfl) (by first | rfl | omega) (by omega) (by first | rfl | omega)) rfl ?_
        first | refine GL.skipG rfl rfl ?_ | refine GL.skipU rfl rfl ?_ | refine GL.valT rfl (rv_load ag_3 rfl (by first | exact Hd.cell (k := 0) rfl rfl | exact Hd.rowCell (k := 0) rfl (by assumption))) rfl ?_ | refine GL.valG rfl (fun hb => rv_load ag_3 (by first | exact evb rfl hb | rfl) (by first | exact Hd.cell (k := 0) (by first | exact evb rfl hb | rfl) (by first | exact evb rfl hb | rfl) | exact Hd.rowCell (k := 0) (by first | exact evb rfl hb | rfl) (by assumption))) rfl ?_
        first | refine GL.skipG rfl rfl ?_ | refine GL.skipU rfl rfl ?_ | refine GL.valT rfl ((by first | exact rv_to (v' := .bool true) (rv_leq rfl rfl) (by simp only [Value.bool.injEq, decide_eq_true_eq, decide_eq_false_iff_not]; first | assumption | omega) | exact rv_to (v' := .bool false) (rv_leq rfl rfl) (by simp only [Value.bool.injEq, decide_eq_true_eq, decide_eq_false_iff_not]; first | assumption | omega))) rfl ?_ | refine GL.valG rfl (fun hb => (by first | exact rv_to (v' := .bool true) (rv_leq (by first | exact evb rfl hb | rfl) (by first | exact evb rfl hb | rfl)) (by simp only [Value.bool.injEq, decide_eq_true_eq, decide_eq_false_iff_not]; first | assumption | omega) | exact rv_to (v' := .bool false) (rv_leq (by first | exact evb rfl hb | rfl) (by first | exact evb rfl hb | rfl)) (by simp only [Value.bool.injEq, decide_eq_true_eq, decide_eq_false_iff_not]; first | assumption | omega))) rfl ?_
        refine GL.val ((by first | exact rv_andT rfl rfl rfl | exact rv_andF rfl rfl rfl | exact rv_pickAnd rfl rfl rfl)) rfl ?_
        refine GL.nil ?_
        exact GX.cutq () trivial (by repeat (first | exact Sub.nil | refine Sub.cons rfl ?_)) (fun w9 h => by
            exact h)
    refine GX.then ?_
    first | refine GC.condP rfl (fun c38 => ?_) (fun c38 => ?_) | refine GC.cond rfl (fun c38 => ?_) (fun c38 => ?_)
    · refine GC.seq ?_
      refine GC.reg ?_
      refine GL.val (rv_move rfl) rfl ?_
      refine GL.val (rv_elem es_28 rfl rfl (by omega) (by omega)) rfl ?_
      refine GL.val (rv_load ag_5 rfl (Hd.cell0 (Sh.byC hC (j := 0) (by simp)) (fun h => h))) rfl ?_
      refine GL.val (rv_assign rfl) rfl ?_
      refine GL.nil ?_
      refine GX.then ?_
      refine GC.ret ?_
      refine GX.then_ret ?_
      refine GX.ret1 rfl (RR.tmp rfl) ?_
      exact fun w9 h => ⟨(), (by rw [hk1 c38]; rfl), by
          have h := h.sel [] rfl rfl
          exact h, trivial⟩
    · refine GC.skip ?_
      refine GX.then ?_
      refine GC.seq ?_
      refine GC.reg ?_
      refine GL.val (rv_assign rfl) rfl ?_
      refine GL.nil ?_
      refine GX.then ?_
      refine GC.ret ?_
      refine GX.ret1 rfl (RR.tmp rfl) ?_
      exact fun w9 h => ⟨(), (by rw [hk0 c38]; rfl), by
          have h := h.sel [] rfl rfl
          exact h, trivial⟩
set_option maxRecDepth 100000 in
set_option maxHeartbeats 1000000 in
theorem kind_no (b o n c : Nat) (bs : Sh.B) (w : World) (hC : Cells w b o (byts bs)) (hl : bs.length = n) (hn : n < 4611686018427387904) (h1 : ¬ bs.getD 0 0 = 69) (h2 : ¬ bs.getD 0 0 = 76) (h3 : ¬ bs.getD 0 0 = 78) (h4 : ¬ bs.getD 0 0 = 86) (h5 : ¬ bs.getD 0 0 = 82) (h0 : 0 < n) : Calls Try.prog 27 [.slice (some ⟨b, o, none⟩) n c].toArray w fun e w' => ∃ _g : Unit, e = .returned (v8 (kind bs)) ∧ St noB w w' [] ∧ True := by
  refine GC.calls Try.func27 rfl rfl (St.begin _) ?_
  obtain ⟨c0, r, rfl⟩ : ∃ c0 r, bs = c0 :: r := by cases bs with | nil => simp at hl; omega | cons c0 r => exact ⟨c0, r, rfl⟩
  rw [List.length_cons] at hl
  simp only [List.getD_cons_zero] at h1 h2 h3 h4 h5
  have hk0 : kind (c0 :: r) = 0 := by rw [kind, if_neg (by simp [h1, h2, h3, h4, h5])]
  have hi : ∀ k : UInt8, ¬ c0 = k → ((c0.toNat : Int) == (k.toNat : Int)) = false := fun k hk => by rw [beq_eq_false_iff_ne]; exact fun e => hk (UInt8.toNat_inj.1 (by omega))
  have i1 : ((c0.toNat : Int) == 69) = false := hi 69 h1
  have i2 : ((c0.toNat : Int) == 76) = false := hi 76 h2
  have i3 : ((c0.toNat : Int) == 78) = false := hi 78 h3
  have i4 : ((c0.toNat : Int) == 86) = false := hi 86 h4
  have i5 : ((c0.toNat : Int) == 82) = false := hi 82 h5
  refine GC.seq ?_
  refine GC.reg ?_
  refine GL.val (rv_assign rfl) rfl ?_
  refine GL.nil ?_
  refine GX.then ?_
  refine GC.seq ?_
  refine GC.reg ?_
  refine GL.step (ot_makeMap rfl fun r6 => ?_)
  refine GL.val (rv_buildA as_62 zb_62 rfl rfl rfl rfl) rfl ?_
  refine GL.step (ot_insert (k := 0) Try.underlying63 Try.underlying5 rfl rfl rfl rfl (by rfl) ?_)
  refine GL.val (rv_buildA as_62 zb_62 rfl rfl rfl rfl) rfl ?_
  refine GL.step (ot_insert (k := 0) Try.underlying63 Try.underlying5 rfl rfl rfl rfl (by rfl) ?_)
  refine GL.val (rv_buildA as_62 zb_62 rfl rfl rfl rfl) rfl ?_
  refine GL.step (ot_insert (k := 0) Try.underlying63 Try.underlying5 rfl rfl rfl rfl (by rfl) ?_)
  refine GL.val (rv_buildA as_62 zb_62 rfl rfl rfl rfl) rfl ?_
  refine GL.step (ot_insert (k := 0) Try.underlying63 Try.underlying5 rfl rfl rfl rfl (by rfl) ?_)
  refine GL.val (rv_buildA as_62 zb_62 rfl rfl rfl rfl) rfl ?_
  refine GL.step (ot_insert (k := 0) Try.underlying63 Try.underlying5 rfl rfl rfl rfl (by rfl) ?_)
  refine GL.val (rv_move rfl) rfl ?_
  refine GL.val (rv_assign rfl) rfl ?_
  refine GL.nil ?_
  refine GX.then ?_
  refine GC.seq ?_
  refine GC.seq ?_
  refine GC.reg ?_
  refine GL.val (rv_move rfl) rfl ?_
  refine GL.val (rv_lenSl Try.underlying28 rfl) rfl ?_
  refine GL.val (rv_eqI rfl rfl) rfl ?_
  refine GL.nil ?_
  refine GX.then ?_
  first | refine GC.condP rfl (fun c15 => ?_) (fun c15 => ?_) | refine GC.cond rfl (fun c15 => ?_) (fun c15 => ?_)
  · exact absurd c15 (by omega)
  · refine GC.skip ?_
    refine GX.then ?_
    refine GC.seq ?_
    refine GC.seq ?_
    refine GC.reg ?_
    refine GL.val (rv_move rfl) rfl ?_
    refine GL.val (rv_move rfl) rfl ?_
    refine GL.val (rv_elem es_28 rfl rfl (by omega) (by omega)) rfl ?_
    refine GL.val (rv_load ag_5 rfl (Hd.cell0 (Sh.byC hC (j := 0) (by simp)) (fun h => h))) rfl ?_
    refine GL.val (rv_lookup (k := 0) (o := none) (z := (c0.toNat : Int)) Try.underlying63 Try.underlying5 rfl rfl rfl zb_62 (by simp [Instr.findNow, Instr.sameNow, i1, i2, i3, i4, i5]) rfl) rfl ?_
    refine GL.val (rv_move rfl) rfl ?_
    refine GL.val (rv_extract rfl rfl) rfl ?_
    refine GL.val (rv_extract rfl rfl) rfl ?_
    refine GL.step (ot_alloc (zs := [.int .i64 0, .int .i64 0]) zb_62 rfl rfl fun b4 => ?_)
    refine GL.step (ot_storeA (k := 0) rfl rfl rfl rfl (by exact sz_62) (by first | (fail) | rfl) (by first | (fail) | rfl) (by rfl) ?_)
    refine GL.val (rv_assign rfl) rfl ?_
    refine GL.nil ?_
    refine GX.then ?_
    refine GC.seq ?_
    refine GC.reg ?_
    refine GL.val (rv_move rfl) rfl ?_
    refine GL.val (rv_move rfl) rfl ?_
    first | refine GL.skipG rfl rfl ?_ | refine GL.skipU rfl rfl ?_ | refine GL.valT rfl (rv_move rfl) rfl ?_ | refine GL.valG rfl (fun hb => rv_move (by first | exact evb rfl hb | rfl)) rfl ?_
    first | refine GL.skipG rfl rfl ?_ | refine GL.skipU rfl rfl ?_ | refine GL.valT rfl (rv_lenSl Try.underlying28 rfl) rfl ?_ | refine GL.valG rfl (fun hb => rv_lenSl Try.underlying28 (by first | exact evb rfl hb | rfl)) rfl ?_
    first | refine GL.skipG rfl rfl ?_ | refine GL.skipU rfl rfl ?_ | refine GL.valT rfl (rv_elemAJ (q := 0) (0) as_62 rfl rfl (by first | rfl | omega) (by omega) (by first | rfl | omega)) rfl ?_ | refine GL.valG rfl (fun hb => rv_elemAJ (q := 0) (0) as_62 (by first | exact evb rfl hb | rfl) (by first | exact evb rfl hb | rfl) (by first | rfl | omega) (by omega) (by first | rfl | omega)) rfl ?_
    first | refine GL.skipG rfl rfl ?_ | refine GL.skipU rfl rfl ?_ | refine GL.valT rfl (rv_load ag_3 rfl (by first | exact Hd.cell (k := 0) rfl rfl | exact Hd.rowCell (k := 0) rfl (by assumption))) rfl ?_ | refine GL.valG rfl (fun hb => rv_load ag_3 (by first | exact evb rfl hb | rfl) (by first | exact Hd.cell (k := 0) (by first | exact evb rfl hb | rfl) (by first | exact evb rfl hb | rfl) | exact Hd.rowCell (k := 0) (by first | exact evb rfl hb | rfl) (by assumption))) rfl ?_
    first | refine GL.skipG rfl rfl ?_ | refine GL.skipU rfl rfl ?_ | refine GL.valT rfl ((by first | exact rv_to (v' := .bool true) (rv_geq rfl rfl) (by simp only [Value.bool.injEq, decide_eq_true_eq, decide_eq_false_iff_not]; first | assumption | omega) | exact rv_to (v' := .bool false) (rv_geq rfl rfl) (by simp only [Value.bool.injEq, decide_eq_true_eq, decide_eq_false_iff_not]; first | assumption | omega))) rfl ?_ | refine GL.valG rfl (fun hb => (by first | exact rv_to (v' := .bool true) (rv_geq (by first | exact evb rfl hb | rfl) (by first | exact evb rfl hb | rfl)) (by simp only [Value.bool.injEq, decide_eq_true_eq, decide_eq_false_iff_not]; first | assumption | omega) | exact rv_to (v' := .bool false) (rv_geq (by first | exact evb rfl hb | rfl) (by first | exact evb rfl hb | rfl)) (by simp only [Value.bool.injEq, decide_eq_true_eq, decide_eq_false_iff_not]; first | assumption | omega))) rfl ?_
    refine GL.val ((by first | exact rv_andT rfl rfl rfl | exact rv_andF rfl rfl rfl | exact rv_pickAnd rfl rfl rfl)) rfl ?_
    refine GL.val (rv_move rfl) rfl ?_
    first | refine GL.skipG rfl rfl ?_ | refine GL.skipU rfl rfl ?_ | refine GL.valT rfl (rv_move rfl) rfl ?_ | refine GL.valG rfl (fun hb => rv_move (by first | exact evb rfl hb | rfl)) rfl ?_
    first | refine GL.skipG rfl rfl ?_ | refine GL.skipU rfl rfl ?_ | refine GL.valT rfl (rv_lenSl Try.underlying28 rfl) rfl ?_ | refine GL.valG rfl (fun hb => rv_lenSl Try.underlying28 (by first | exact evb rfl hb | rfl)) rfl ?_
    first | refine GL.skipG rfl rfl ?_ | refine GL.skipU rfl rfl ?_ | refine GL.valT rfl (rv_elemAJ (q := 1) (1) as_62 rfl rfl (by first | rfl | omega) (by omega) (by first | rfl | omega)) rfl ?_ | refine GL.valG rfl (fun hb => rv_elemAJ (q := 1) (1) as_62 (by first | exact evb rfl hb | rfl) (by first | exact evb rfl hb | rfl) (by first | rfl | omega) (by omega) (by first | rfl | omega)) rfl ?_
    first | refine GL.skipG rfl rfl ?_ | refine GL.skipU rfl rfl ?_ | refine GL.valT rfl (rv_load ag_3 rfl (by first | exact Hd.cell (k := 0) rfl rfl | exact Hd.rowCell (k := 0) rfl (by assumption))) rfl ?_ | refine GL.valG rfl (fun hb => rv_load ag_3 (by first | exact evb rfl hb | rfl) (by first | exact Hd.cell (k := 0) (by first | exact evb rfl hb | rfl) (by first | exact evb rfl hb | rfl) | exact Hd.rowCell (k := 0) (by first | exact evb rfl hb | rfl) (by assumption))) rfl ?_
    first | refine GL.skipG rfl rfl ?_ | refine GL.skipU rfl rfl ?_ | refine GL.valT rfl ((by first | exact rv_to (v' := .bool true) (rv_leq rfl rfl) (by simp only [Value.bool.injEq, decide_eq_true_eq, decide_eq_false_iff_not]; first | assumption | omega) | exact rv_to (v' := .bool false) (rv_leq rfl rfl) (by simp only [Value.bool.injEq, decide_eq_true_eq, decide_eq_false_iff_not]; first | assumption | omega))) rfl ?_ | refine GL.valG rfl (fun hb => (by first | exact rv_to (v' := .bool true) (rv_leq (by first | exact evb rfl hb | rfl) (by first | exact evb rfl hb | rfl)) (by simp only [Value.bool.injEq, decide_eq_true_eq, decide_eq_false_iff_not]; first | assumption | omega) | exact rv_to (v' := .bool false) (rv_leq (by first | exact evb rfl hb | rfl) (by first | exact evb rfl hb | rfl)) (by simp only [Value.bool.injEq, decide_eq_true_eq, decide_eq_false_iff_not]; first | assumption | omega))) rfl ?_
    refine GL.val ((by first | exact rv_andT rfl rfl rfl | exact rv_andF rfl rfl rfl | exact rv_pickAnd rfl rfl rfl)) rfl ?_
    refine GL.nil ?_
    refine GX.then ?_
    first | refine GC.condP rfl (fun c38 => ?_) (fun c38 => ?_) | refine GC.cond rfl (fun c38 => ?_) (fun c38 => ?_)
    · exact absurd c38 (by simp)
    · refine GC.skip ?_
      refine GX.then ?_
      refine GC.seq ?_
      refine GC.reg ?_
      refine GL.val (rv_assign rfl) rfl ?_
      refine GL.nil ?_
      refine GX.then ?_
      refine GC.ret ?_
      refine GX.ret1 rfl (RR.tmp rfl) ?_
      exact fun w9 h => ⟨(), (by rw [hk0]; rfl), by
          have h := h.sel [] rfl rfl
          exact h, trivial⟩
set_option maxRecDepth 100000 in
set_option maxHeartbeats 1000000 in
theorem kind_nil (A : Option Addr) (c : Nat) (w : World) : Calls Try.prog 27 [.slice A 0 c].toArray w fun e w' => ∃ _g : Unit, e = .returned (v8 (kind [])) ∧ St noB w w' [] ∧ True := by
  refine GC.calls Try.func27 rfl rfl (St.begin _) ?_
  refine GC.seq ?_
  refine GC.reg ?_
  refine GL.val (rv_assign rfl) rfl ?_
  refine GL.nil ?_
  refine GX.then ?_
  refine GC.seq ?_
  refine GC.reg ?_
  refine GL.step (ot_makeMap rfl fun r6 => ?_)
  refine GL.val (rv_buildA as_62 zb_62 rfl rfl rfl rfl) rfl ?_
  refine GL.step (ot_insert (k := 0) Try.underlying63 Try.underlying5 rfl rfl rfl rfl (by rfl) ?_)
  refine GL.val (rv_buildA as_62 zb_62 rfl rfl rfl rfl) rfl ?_
  refine GL.step (ot_insert (k := 0) Try.underlying63 Try.underlying5 rfl rfl rfl rfl (by rfl) ?_)
  refine GL.val (rv_buildA as_62 zb_62 rfl rfl rfl rfl) rfl ?_
  refine GL.step (ot_insert (k := 0) Try.underlying63 Try.underlying5 rfl rfl rfl rfl (by rfl) ?_)
  refine GL.val (rv_buildA as_62 zb_62 rfl rfl rfl rfl) rfl ?_
  refine GL.step (ot_insert (k := 0) Try.underlying63 Try.underlying5 rfl rfl rfl rfl (by rfl) ?_)
  refine GL.val (rv_buildA as_62 zb_62 rfl rfl rfl rfl) rfl ?_
  refine GL.step (ot_insert (k := 0) Try.underlying63 Try.underlying5 rfl rfl rfl rfl (by rfl) ?_)
  refine GL.val (rv_move rfl) rfl ?_
  refine GL.val (rv_assign rfl) rfl ?_
  refine GL.nil ?_
  refine GX.then ?_
  refine GC.seq ?_
  refine GC.seq ?_
  refine GC.reg ?_
  refine GL.val (rv_move rfl) rfl ?_
  refine GL.val (rv_lenSl Try.underlying28 rfl) rfl ?_
  refine GL.val (rv_eqI rfl rfl) rfl ?_
  refine GL.nil ?_
  refine GX.then ?_
  first | refine GC.condP rfl (fun c15 => ?_) (fun c15 => ?_) | refine GC.cond rfl (fun c15 => ?_) (fun c15 => ?_)
  · refine GC.seq ?_
    refine GC.reg ?_
    refine GL.val (rv_assign rfl) rfl ?_
    refine GL.nil ?_
    refine GX.then ?_
    refine GC.ret ?_
    refine GX.then_ret ?_
    refine GX.ret1 rfl (RR.tmp rfl) ?_
    exact fun w9 h => ⟨(), rfl, by
        have h := h.sel [] rfl rfl
        exact h, trivial⟩
  · exact absurd rfl c15
set_option maxRecDepth 100000 in
set_option maxHeartbeats 1000000 in
theorem rkind_c (A : Option Addr) (n c : Nat) (bs : Sh.B) (w : World) (hR : SlR w A (byts bs)) (hl : bs.length = n) (hn : n < 4611686018427387904) : Calls Try.prog 28 [.slice A n c].toArray w fun e w' => ∃ _g : Unit, e = .returned (v8 (kind bs)) ∧ St noB w w' [] ∧ True := by
  refine GC.calls Try.func28 rfl rfl (St.begin _) ?_
  subst hl
  refine GC.seq ?_
  refine GC.reg ?_
  refine GL.val (rv_assign rfl) rfl ?_
  refine GL.nil ?_
  refine GX.then ?_
  refine GC.seq ?_
  refine GC.reg ?_
  refine GL.val (rv_move rfl) rfl ?_
  refine GL.val (rv_lenSl Try.underlying28 rfl) rfl ?_
  refine GL.val (rv_assign rfl) rfl ?_
  refine GL.nil ?_
  refine GX.then ?_
  refine GC.seq ?_
  refine GC.seq ?_
  refine GC.reg ?_
  refine GL.val (rv_move rfl) rfl ?_
  refine GL.val (rv_eqI rfl rfl) rfl ?_
  refine GL.nil ?_
  refine GX.then ?_
  first | refine GC.condP rfl (fun c8 => ?_) (fun c8 => ?_) | refine GC.cond rfl (fun c8 => ?_) (fun c8 => ?_)
  · obtain rfl : bs = [] := List.eq_nil_of_length_eq_zero (by omega)
    refine GC.seq ?_
    refine GC.reg ?_
    refine GL.val (rv_assign rfl) rfl ?_
    refine GL.nil ?_
    refine GX.then ?_
    refine GC.ret ?_
    refine GX.then_ret ?_
    refine GX.ret1 rfl (RR.tmp rfl) ?_
    exact fun w9 h => ⟨(), rfl, by
        exact h, trivial⟩
  · obtain ⟨b, o, rfl, hC⟩ := hR.resolve_left (fun e => by have := congrArg List.length e; simp [byts] at this; subst this; simp at c8)
    obtain ⟨c0, r, rfl⟩ : ∃ c0 r, bs = c0 :: r := by
      cases bs with
      | nil => simp at c8
      | cons c0 r => exact ⟨c0, r, rfl⟩
    refine GC.skip ?_
    refine GX.then ?_
    refine GC.seq ?_
    refine GC.reg ?_
    refine GL.val (rv_assign rfl) rfl ?_
    refine GL.nil ?_
    refine GX.then ?_
    refine GC.seq ?_
    refine GC.seq ?_
    refine GC.reg ?_
    refine GL.val (rv_move rfl) rfl ?_
    refine GL.val (rv_elem es_28 rfl rfl (by omega) (by omega)) rfl ?_
    refine GL.val (rv_load ag_5 rfl (Hd.cell0 (Sh.byC hC (j := 0) (by simp)) (fun h => h))) rfl ?_
    refine GL.nil ?_
    refine GX.then ?_
    refine GC.cutq (γ := Bool) [0] [] (fun g Lk => (4, .bool g) :: Lk) (fun g Fk => Fk) (fun g => kind (c0 :: r) = if g = true then c0 else 0) rfl rfl ?_ (fun ok hok => ?_)
    · refine GC.block ?_
      refine GC.seq ?_
      refine GC.reg ?_
      refine GL.val (rv_eq8 (b := 69) rfl rfl) rfl ?_
      refine GL.val (rv_assign rfl) rfl ?_
      refine GL.nil ?_
      refine GX.then ?_
      first | refine GC.condP rfl (fun c12 => ?_) (fun c12 => ?_) | refine GC.cond rfl (fun c12 => ?_) (fun c12 => ?_)
      · refine GC.reg ?_
        refine GL.val (rv_move rfl) rfl ?_
        refine GL.val (rv_eqI rfl rfl) rfl ?_
        refine GL.val (rv_assign rfl) rfl ?_
        refine GL.nil ?_
        refine GX.blk ?_
        exact GX.cutq (decide (((c0 :: r).length : Int) = 1)) (kind_if _ _ _ (by clear hC hR hn c8; simp only [List.getD_cons_zero, List.length_cons, ← UInt8.toNat_inj, UInt8.reduceToNat] at *; first | omega | (constructor <;> first | exact False.elim | (rintro (⟨h, _⟩ | ⟨h | h, _⟩ | ⟨h, _⟩ | ⟨h, _⟩) <;> omega)))) (by repeat (first | exact Sub.nil | refine Sub.cons rfl ?_)) (fun w9 h => by
            exact h)
      · refine GC.seq ?_
        refine GC.seq ?_
        refine GC.reg ?_
        refine GL.val (rv_eq8 (b := 76) rfl rfl) rfl ?_
        refine GL.val (rv_assign rfl) rfl ?_
        refine GL.nil ?_
        refine GX.then ?_
        first | refine GC.condP rfl (fun c16 => ?_) (fun c16 => ?_) | refine GC.cond rfl (fun c16 => ?_) (fun c16 => ?_)
        · refine GC.skip ?_
          refine GX.then ?_
          first | refine GC.condP rfl (fun c16 => ?_) (fun c16 => ?_) | refine GC.cond rfl (fun c16 => ?_) (fun c16 => ?_)
          · refine GC.reg ?_
            refine GL.val (rv_move rfl) rfl ?_
            refine GL.val (rv_eqI rfl rfl) rfl ?_
            refine GL.val (rv_assign rfl) rfl ?_
            refine GL.nil ?_
            refine GX.blk ?_
            exact GX.cutq (decide (((c0 :: r).length : Int) = 65)) (kind_if _ _ _ (by clear hC hR hn c8; simp only [List.getD_cons_zero, List.length_cons, ← UInt8.toNat_inj, UInt8.reduceToNat] at *; first | omega | (constructor <;> first | exact False.elim | (rintro (⟨h, _⟩ | ⟨h | h, _⟩ | ⟨h, _⟩ | ⟨h, _⟩) <;> omega)))) (by repeat (first | exact Sub.nil | refine Sub.cons rfl ?_)) (fun w9 h => by
                exact h)
          · refine GC.seq ?_
            refine GC.reg ?_
            refine GL.val (rv_eq8 (b := 82) rfl rfl) rfl ?_
            refine GL.val (rv_assign rfl) rfl ?_
            refine GL.nil ?_
            refine GX.then ?_
            first | refine GC.condP rfl (fun c21 => ?_) (fun c21 => ?_) | refine GC.cond rfl (fun c21 => ?_) (fun c21 => ?_)
            · refine GC.reg ?_
              refine GL.val (rv_move rfl) rfl ?_
              refine GL.val (rv_eqI rfl rfl) rfl ?_
              refine GL.val (rv_assign rfl) rfl ?_
              refine GL.nil ?_
              refine GX.blk ?_
              exact GX.cutq (decide (((c0 :: r).length : Int) = 105)) (kind_if _ _ _ (by clear hC hR hn c8; simp only [List.getD_cons_zero, List.length_cons, ← UInt8.toNat_inj, UInt8.reduceToNat] at *; first | omega | (constructor <;> first | exact False.elim | (rintro (⟨h, _⟩ | ⟨h | h, _⟩ | ⟨h, _⟩ | ⟨h, _⟩) <;> omega)))) (by repeat (first | exact Sub.nil | refine Sub.cons rfl ?_)) (fun w9 h => by
                  exact h)
            · refine GC.seq ?_
              refine GC.reg ?_
              refine GL.val (rv_eq8 (b := 86) rfl rfl) rfl ?_
              refine GL.val (rv_assign rfl) rfl ?_
              refine GL.nil ?_
              refine GX.then ?_
              first | refine GC.condP rfl (fun c25 => ?_) (fun c25 => ?_) | refine GC.cond rfl (fun c25 => ?_) (fun c25 => ?_)
              · refine GC.cutq (γ := Unit) [0] [] (fun g Lk => (4, .bool (decide (49 ≤ (c0 :: r).length ∧ (c0 :: r).length ≤ 1073741824))) :: Lk) (fun g Fk => Fk) (fun g => True) rfl rfl ?_ (fun _ _ => ?_)
                · rcases (by omega : (c0 :: r).length < 49 ∨ (49 ≤ (c0 :: r).length ∧ 1073741824 < (c0 :: r).length) ∨ (49 ≤ (c0 :: r).length ∧ (c0 :: r).length ≤ 1073741824)) with h | h | h
                  · rw [show decide (49 ≤ (c0 :: r).length ∧ (c0 :: r).length ≤ 1073741824) = false from decide_eq_false (by omega)]
                    refine GC.reg ?_
                    refine GL.val (rv_move rfl) rfl ?_
                    refine GL.val ((by first | exact rv_to (v' := .bool true) (rv_geq rfl rfl) (by simp only [Value.bool.injEq, decide_eq_true_eq, decide_eq_false_iff_not]; first | assumption | omega) | exact rv_to (v' := .bool false) (rv_geq rfl rfl) (by simp only [Value.bool.injEq, decide_eq_true_eq, decide_eq_false_iff_not]; first | assumption | omega))) rfl ?_
                    refine GL.val (rv_move rfl) rfl ?_
                    first | refine GL.skipG rfl rfl ?_ | refine GL.skipU rfl rfl ?_ | refine GL.valT rfl (rv_move rfl) rfl ?_ | refine GL.valG rfl (fun hb => rv_move (by first | exact evb rfl hb | rfl)) rfl ?_
                    first | refine GL.skipG rfl rfl ?_ | refine GL.skipU rfl rfl ?_ | refine GL.valT rfl ((by first | exact rv_to (v' := .bool true) (rv_leq rfl rfl) (by simp only [Value.bool.injEq, decide_eq_true_eq, decide_eq_false_iff_not]; first | assumption | omega) | exact rv_to (v' := .bool false) (rv_leq rfl rfl) (by simp only [Value.bool.injEq, decide_eq_true_eq, decide_eq_false_iff_not]; first | assumption | omega))) rfl ?_ | refine GL.valG rfl (fun hb => (by first | exact rv_to (v' := .bool true) (rv_leq (by first | exact evb rfl hb | rfl) (by first | exact evb rfl hb | rfl)) (by simp only [Value.bool.injEq, decide_eq_true_eq, decide_eq_false_iff_not]; first | assumption | omega) | exact rv_to (v' := .bool false) (rv_leq (by first | exact evb rfl hb | rfl) (by first | exact evb rfl hb | rfl)) (by simp only [Value.bool.injEq, decide_eq_true_eq, decide_eq_false_iff_not]; first | assumption | omega))) rfl ?_
                    refine GL.val ((by first | exact rv_andT rfl rfl rfl | exact rv_andF rfl rfl rfl | exact rv_pickAnd rfl rfl rfl)) rfl ?_
                    refine GL.val (rv_assign rfl) rfl ?_
                    refine GL.nil ?_
                    exact GX.cutq () trivial (by repeat (first | exact Sub.nil | refine Sub.cons rfl ?_)) (fun w9 h => by
                        exact h)
                  · rw [show decide (49 ≤ (c0 :: r).length ∧ (c0 :: r).length ≤ 1073741824) = false from decide_eq_false (by omega)]
                    refine GC.reg ?_
                    refine GL.val (rv_move rfl) rfl ?_
                    refine GL.val ((by first | exact rv_to (v' := .bool true) (rv_geq rfl rfl) (by simp only [Value.bool.injEq, decide_eq_true_eq, decide_eq_false_iff_not]; first | assumption | omega) | exact rv_to (v' := .bool false) (rv_geq rfl rfl) (by simp only [Value.bool.injEq, decide_eq_true_eq, decide_eq_false_iff_not]; first | assumption | omega))) rfl ?_
                    refine GL.val (rv_move rfl) rfl ?_
                    first | refine GL.skipG rfl rfl ?_ | refine GL.skipU rfl rfl ?_ | refine GL.valT rfl (rv_move rfl) rfl ?_ | refine GL.valG rfl (fun hb => rv_move (by first | exact evb rfl hb | rfl)) rfl ?_
                    first | refine GL.skipG rfl rfl ?_ | refine GL.skipU rfl rfl ?_ | refine GL.valT rfl ((by first | exact rv_to (v' := .bool true) (rv_leq rfl rfl) (by simp only [Value.bool.injEq, decide_eq_true_eq, decide_eq_false_iff_not]; first | assumption | omega) | exact rv_to (v' := .bool false) (rv_leq rfl rfl) (by simp only [Value.bool.injEq, decide_eq_true_eq, decide_eq_false_iff_not]; first | assumption | omega))) rfl ?_ | refine GL.valG rfl (fun hb => (by first | exact rv_to (v' := .bool true) (rv_leq (by first | exact evb rfl hb | rfl) (by first | exact evb rfl hb | rfl)) (by simp only [Value.bool.injEq, decide_eq_true_eq, decide_eq_false_iff_not]; first | assumption | omega) | exact rv_to (v' := .bool false) (rv_leq (by first | exact evb rfl hb | rfl) (by first | exact evb rfl hb | rfl)) (by simp only [Value.bool.injEq, decide_eq_true_eq, decide_eq_false_iff_not]; first | assumption | omega))) rfl ?_
                    refine GL.val ((by first | exact rv_andT rfl rfl rfl | exact rv_andF rfl rfl rfl | exact rv_pickAnd rfl rfl rfl)) rfl ?_
                    refine GL.val (rv_assign rfl) rfl ?_
                    refine GL.nil ?_
                    exact GX.cutq () trivial (by repeat (first | exact Sub.nil | refine Sub.cons rfl ?_)) (fun w9 h => by
                        exact h)
                  · rw [show decide (49 ≤ (c0 :: r).length ∧ (c0 :: r).length ≤ 1073741824) = true from decide_eq_true (by omega)]
                    refine GC.reg ?_
                    refine GL.val (rv_move rfl) rfl ?_
                    refine GL.val ((by first | exact rv_to (v' := .bool true) (rv_geq rfl rfl) (by simp only [Value.bool.injEq, decide_eq_true_eq, decide_eq_false_iff_not]; first | assumption | omega) | exact rv_to (v' := .bool false) (rv_geq rfl rfl) (by simp only [Value.bool.injEq, decide_eq_true_eq, decide_eq_false_iff_not]; first | assumption | omega))) rfl ?_
                    refine GL.val (rv_move rfl) rfl ?_
                    first | refine GL.skipG rfl rfl ?_ | refine GL.skipU rfl rfl ?_ | refine GL.valT rfl (rv_move rfl) rfl ?_ | refine GL.valG rfl (fun hb => rv_move (by first | exact evb rfl hb | rfl)) rfl ?_
                    first | refine GL.skipG rfl rfl ?_ | refine GL.skipU rfl rfl ?_ | refine GL.valT rfl ((by first | exact rv_to (v' := .bool true) (rv_leq rfl rfl) (by simp only [Value.bool.injEq, decide_eq_true_eq, decide_eq_false_iff_not]; first | assumption | omega) | exact rv_to (v' := .bool false) (rv_leq rfl rfl) (by simp only [Value.bool.injEq, decide_eq_true_eq, decide_eq_false_iff_not]; first | assumption | omega))) rfl ?_ | refine GL.valG rfl (fun hb => (by first | exact rv_to (v' := .bool true) (rv_leq (by first | exact evb rfl hb | rfl) (by first | exact evb rfl hb | rfl)) (by simp only [Value.bool.injEq, decide_eq_true_eq, decide_eq_false_iff_not]; first | assumption | omega) | exact rv_to (v' := .bool false) (rv_leq (by first | exact evb rfl hb | rfl) (by first | exact evb rfl hb | rfl)) (by simp only [Value.bool.injEq, decide_eq_true_eq, decide_eq_false_iff_not]; first | assumption | omega))) rfl ?_
                    refine GL.val ((by first | exact rv_andT rfl rfl rfl | exact rv_andF rfl rfl rfl | exact rv_pickAnd rfl rfl rfl)) rfl ?_
                    refine GL.val (rv_assign rfl) rfl ?_
                    refine GL.nil ?_
                    exact GX.cutq () trivial (by repeat (first | exact Sub.nil | refine Sub.cons rfl ?_)) (fun w9 h => by
                        exact h)
                refine GX.blk ?_
                exact GX.cutq (decide (49 ≤ (c0 :: r).length ∧ (c0 :: r).length ≤ 1073741824)) (kind_if _ _ _ (by clear hC hR hn c8; simp only [List.getD_cons_zero, List.length_cons, ← UInt8.toNat_inj, UInt8.reduceToNat] at *; first | omega | (constructor <;> first | exact False.elim | (rintro (⟨h, _⟩ | ⟨h | h, _⟩ | ⟨h, _⟩ | ⟨h, _⟩) <;> omega)))) (by repeat (first | exact Sub.nil | refine Sub.cons rfl ?_)) (fun w9 h => by
                    exact h)
              · refine GC.skip ?_
                refine GX.blk ?_
                exact GX.cutq (decide False) (kind_if _ _ _ (by clear hC hR hn c8; simp only [List.getD_cons_zero, List.length_cons, ← UInt8.toNat_inj, UInt8.reduceToNat] at *; first | omega | (constructor <;> first | exact False.elim | (rintro (⟨h, _⟩ | ⟨h | h, _⟩ | ⟨h, _⟩ | ⟨h, _⟩) <;> omega)))) (by repeat (first | exact Sub.nil | refine Sub.cons rfl ?_)) (fun w9 h => by
                    exact h)
        · refine GC.reg ?_
          refine GL.val (rv_eq8 (b := 78) rfl rfl) rfl ?_
          refine GL.val (rv_assign rfl) rfl ?_
          refine GL.nil ?_
          refine GX.then ?_
          first | refine GC.condP rfl (fun c16 => ?_) (fun c16 => ?_) | refine GC.cond rfl (fun c16 => ?_) (fun c16 => ?_)
          · refine GC.reg ?_
            refine GL.val (rv_move rfl) rfl ?_
            refine GL.val (rv_eqI rfl rfl) rfl ?_
            refine GL.val (rv_assign rfl) rfl ?_
            refine GL.nil ?_
            refine GX.blk ?_
            exact GX.cutq (decide (((c0 :: r).length : Int) = 65)) (kind_if _ _ _ (by clear hC hR hn c8; simp only [List.getD_cons_zero, List.length_cons, ← UInt8.toNat_inj, UInt8.reduceToNat] at *; first | omega | (constructor <;> first | exact False.elim | (rintro (⟨h, _⟩ | ⟨h | h, _⟩ | ⟨h, _⟩ | ⟨h, _⟩) <;> omega)))) (by repeat (first | exact Sub.nil | refine Sub.cons rfl ?_)) (fun w9 h => by
                exact h)
          · refine GC.seq ?_
            refine GC.reg ?_
            refine GL.val (rv_eq8 (b := 82) rfl rfl) rfl ?_
            refine GL.val (rv_assign rfl) rfl ?_
            refine GL.nil ?_
            refine GX.then ?_
            first | refine GC.condP rfl (fun c21 => ?_) (fun c21 => ?_) | refine GC.cond rfl (fun c21 => ?_) (fun c21 => ?_)
            · refine GC.reg ?_
              refine GL.val (rv_move rfl) rfl ?_
              refine GL.val (rv_eqI rfl rfl) rfl ?_
              refine GL.val (rv_assign rfl) rfl ?_
              refine GL.nil ?_
              refine GX.blk ?_
              exact GX.cutq (decide (((c0 :: r).length : Int) = 105)) (kind_if _ _ _ (by clear hC hR hn c8; simp only [List.getD_cons_zero, List.length_cons, ← UInt8.toNat_inj, UInt8.reduceToNat] at *; first | omega | (constructor <;> first | exact False.elim | (rintro (⟨h, _⟩ | ⟨h | h, _⟩ | ⟨h, _⟩ | ⟨h, _⟩) <;> omega)))) (by repeat (first | exact Sub.nil | refine Sub.cons rfl ?_)) (fun w9 h => by
                  exact h)
            · refine GC.seq ?_
              refine GC.reg ?_
              refine GL.val (rv_eq8 (b := 86) rfl rfl) rfl ?_
              refine GL.val (rv_assign rfl) rfl ?_
              refine GL.nil ?_
              refine GX.then ?_
              first | refine GC.condP rfl (fun c25 => ?_) (fun c25 => ?_) | refine GC.cond rfl (fun c25 => ?_) (fun c25 => ?_)
              · refine GC.cutq (γ := Unit) [0] [] (fun g Lk => (4, .bool (decide (49 ≤ (c0 :: r).length ∧ (c0 :: r).length ≤ 1073741824))) :: Lk) (fun g Fk => Fk) (fun g => True) rfl rfl ?_ (fun _ _ => ?_)
                · rcases (by omega : (c0 :: r).length < 49 ∨ (49 ≤ (c0 :: r).length ∧ 1073741824 < (c0 :: r).length) ∨ (49 ≤ (c0 :: r).length ∧ (c0 :: r).length ≤ 1073741824)) with h | h | h
                  · rw [show decide (49 ≤ (c0 :: r).length ∧ (c0 :: r).length ≤ 1073741824) = false from decide_eq_false (by omega)]
                    refine GC.reg ?_
                    refine GL.val (rv_move rfl) rfl ?_
                    refine GL.val ((by first | exact rv_to (v' := .bool true) (rv_geq rfl rfl) (by simp only [Value.bool.injEq, decide_eq_true_eq, decide_eq_false_iff_not]; first | assumption | omega) | exact rv_to (v' := .bool false) (rv_geq rfl rfl) (by simp only [Value.bool.injEq, decide_eq_true_eq, decide_eq_false_iff_not]; first | assumption | omega))) rfl ?_
                    refine GL.val (rv_move rfl) rfl ?_
                    first | refine GL.skipG rfl rfl ?_ | refine GL.skipU rfl rfl ?_ | refine GL.valT rfl (rv_move rfl) rfl ?_ | refine GL.valG rfl (fun hb => rv_move (by first | exact evb rfl hb | rfl)) rfl ?_
                    first | refine GL.skipG rfl rfl ?_ | refine GL.skipU rfl rfl ?_ | refine GL.valT rfl ((by first | exact rv_to (v' := .bool true) (rv_leq rfl rfl) (by simp only [Value.bool.injEq, decide_eq_true_eq, decide_eq_false_iff_not]; first | assumption | omega) | exact rv_to (v' := .bool false) (rv_leq rfl rfl) (by simp only [Value.bool.injEq, decide_eq_true_eq, decide_eq_false_iff_not]; first | assumption | omega))) rfl ?_ | refine GL.valG rfl (fun hb => (by first | exact rv_to (v' := .bool true) (rv_leq (by first | exact evb rfl hb | rfl) (by first | exact evb rfl hb | rfl)) (by simp only [Value.bool.injEq, decide_eq_true_eq, decide_eq_false_iff_not]; first | assumption | omega) | exact rv_to (v' := .bool false) (rv_leq (by first | exact evb rfl hb | rfl) (by first | exact evb rfl hb | rfl)) (by simp only [Value.bool.injEq, decide_eq_true_eq, decide_eq_false_iff_not]; first | assumption | omega))) rfl ?_
                    refine GL.val ((by first | exact rv_andT rfl rfl rfl | exact rv_andF rfl rfl rfl | exact rv_pickAnd rfl rfl rfl)) rfl ?_
                    refine GL.val (rv_assign rfl) rfl ?_
                    refine GL.nil ?_
                    exact GX.cutq () trivial (by repeat (first | exact Sub.nil | refine Sub.cons rfl ?_)) (fun w9 h => by
                        exact h)
                  · rw [show decide (49 ≤ (c0 :: r).length ∧ (c0 :: r).length ≤ 1073741824) = false from decide_eq_false (by omega)]
                    refine GC.reg ?_
                    refine GL.val (rv_move rfl) rfl ?_
                    refine GL.val ((by first | exact rv_to (v' := .bool true) (rv_geq rfl rfl) (by simp only [Value.bool.injEq, decide_eq_true_eq, decide_eq_false_iff_not]; first | assumption | omega) | exact rv_to (v' := .bool false) (rv_geq rfl rfl) (by simp only [Value.bool.injEq, decide_eq_true_eq, decide_eq_false_iff_not]; first | assumption | omega))) rfl ?_
                    refine GL.val (rv_move rfl) rfl ?_
                    first | refine GL.skipG rfl rfl ?_ | refine GL.skipU rfl rfl ?_ | refine GL.valT rfl (rv_move rfl) rfl ?_ | refine GL.valG rfl (fun hb => rv_move (by first | exact evb rfl hb | rfl)) rfl ?_
                    first | refine GL.skipG rfl rfl ?_ | refine GL.skipU rfl rfl ?_ | refine GL.valT rfl ((by first | exact rv_to (v' := .bool true) (rv_leq rfl rfl) (by simp only [Value.bool.injEq, decide_eq_true_eq, decide_eq_false_iff_not]; first | assumption | omega) | exact rv_to (v' := .bool false) (rv_leq rfl rfl) (by simp only [Value.bool.injEq, decide_eq_true_eq, decide_eq_false_iff_not]; first | assumption | omega))) rfl ?_ | refine GL.valG rfl (fun hb => (by first | exact rv_to (v' := .bool true) (rv_leq (by first | exact evb rfl hb | rfl) (by first | exact evb rfl hb | rfl)) (by simp only [Value.bool.injEq, decide_eq_true_eq, decide_eq_false_iff_not]; first | assumption | omega) | exact rv_to (v' := .bool false) (rv_leq (by first | exact evb rfl hb | rfl) (by first | exact evb rfl hb | rfl)) (by simp only [Value.bool.injEq, decide_eq_true_eq, decide_eq_false_iff_not]; first | assumption | omega))) rfl ?_
                    refine GL.val ((by first | exact rv_andT rfl rfl rfl | exact rv_andF rfl rfl rfl | exact rv_pickAnd rfl rfl rfl)) rfl ?_
                    refine GL.val (rv_assign rfl) rfl ?_
                    refine GL.nil ?_
                    exact GX.cutq () trivial (by repeat (first | exact Sub.nil | refine Sub.cons rfl ?_)) (fun w9 h => by
                        exact h)
                  · rw [show decide (49 ≤ (c0 :: r).length ∧ (c0 :: r).length ≤ 1073741824) = true from decide_eq_true (by omega)]
                    refine GC.reg ?_
                    refine GL.val (rv_move rfl) rfl ?_
                    refine GL.val ((by first | exact rv_to (v' := .bool true) (rv_geq rfl rfl) (by simp only [Value.bool.injEq, decide_eq_true_eq, decide_eq_false_iff_not]; first | assumption | omega) | exact rv_to (v' := .bool false) (rv_geq rfl rfl) (by simp only [Value.bool.injEq, decide_eq_true_eq, decide_eq_false_iff_not]; first | assumption | omega))) rfl ?_
                    refine GL.val (rv_move rfl) rfl ?_
                    first | refine GL.skipG rfl rfl ?_ | refine GL.skipU rfl rfl ?_ | refine GL.valT rfl (rv_move rfl) rfl ?_ | refine GL.valG rfl (fun hb => rv_move (by first | exact evb rfl hb | rfl)) rfl ?_
                    first | refine GL.skipG rfl rfl ?_ | refine GL.skipU rfl rfl ?_ | refine GL.valT rfl ((by first | exact rv_to (v' := .bool true) (rv_leq rfl rfl) (by simp only [Value.bool.injEq, decide_eq_true_eq, decide_eq_false_iff_not]; first | assumption | omega) | exact rv_to (v' := .bool false) (rv_leq rfl rfl) (by simp only [Value.bool.injEq, decide_eq_true_eq, decide_eq_false_iff_not]; first | assumption | omega))) rfl ?_ | refine GL.valG rfl (fun hb => (by first | exact rv_to (v' := .bool true) (rv_leq (by first | exact evb rfl hb | rfl) (by first | exact evb rfl hb | rfl)) (by simp only [Value.bool.injEq, decide_eq_true_eq, decide_eq_false_iff_not]; first | assumption | omega) | exact rv_to (v' := .bool false) (rv_leq (by first | exact evb rfl hb | rfl) (by first | exact evb rfl hb | rfl)) (by simp only [Value.bool.injEq, decide_eq_true_eq, decide_eq_false_iff_not]; first | assumption | omega))) rfl ?_
                    refine GL.val ((by first | exact rv_andT rfl rfl rfl | exact rv_andF rfl rfl rfl | exact rv_pickAnd rfl rfl rfl)) rfl ?_
                    refine GL.val (rv_assign rfl) rfl ?_
                    refine GL.nil ?_
                    exact GX.cutq () trivial (by repeat (first | exact Sub.nil | refine Sub.cons rfl ?_)) (fun w9 h => by
                        exact h)
                refine GX.blk ?_
                exact GX.cutq (decide (49 ≤ (c0 :: r).length ∧ (c0 :: r).length ≤ 1073741824)) (kind_if _ _ _ (by clear hC hR hn c8; simp only [List.getD_cons_zero, List.length_cons, ← UInt8.toNat_inj, UInt8.reduceToNat] at *; first | omega | (constructor <;> first | exact False.elim | (rintro (⟨h, _⟩ | ⟨h | h, _⟩ | ⟨h, _⟩ | ⟨h, _⟩) <;> omega)))) (by repeat (first | exact Sub.nil | refine Sub.cons rfl ?_)) (fun w9 h => by
                    exact h)
              · refine GC.skip ?_
                refine GX.blk ?_
                exact GX.cutq (decide False) (kind_if _ _ _ (by clear hC hR hn c8; simp only [List.getD_cons_zero, List.length_cons, ← UInt8.toNat_inj, UInt8.reduceToNat] at *; first | omega | (constructor <;> first | exact False.elim | (rintro (⟨h, _⟩ | ⟨h | h, _⟩ | ⟨h, _⟩ | ⟨h, _⟩) <;> omega)))) (by repeat (first | exact Sub.nil | refine Sub.cons rfl ?_)) (fun w9 h => by
                    exact h)
    refine GX.then ?_
    refine GC.seq ?_
    refine GC.seq ?_
    refine GC.reg ?_
    refine GL.val (rv_move rfl) rfl ?_
    refine GL.val (rv_not rfl) rfl ?_
    refine GL.nil ?_
    refine GX.then ?_
    first | refine GC.condP rfl (fun c34 => ?_) (fun c34 => ?_) | refine GC.cond rfl (fun c34 => ?_) (fun c34 => ?_)
    · refine GC.seq ?_
      refine GC.reg ?_
      refine GL.val (rv_assign rfl) rfl ?_
      refine GL.nil ?_
      refine GX.then ?_
      refine GC.ret ?_
      refine GX.then_ret ?_
      refine GX.ret1 rfl (RR.tmp rfl) ?_
      exact fun w9 h => ⟨(), (by rw [hok]; simp at c34; rw [c34]; rfl), by
          exact h, trivial⟩
    · refine GC.skip ?_
      refine GX.then ?_
      refine GC.seq ?_
      refine GC.reg ?_
      refine GL.val (rv_move rfl) rfl ?_
      refine GL.val (rv_elem es_28 rfl rfl (by omega) (by omega)) rfl ?_
      refine GL.val (rv_load ag_5 rfl (Hd.cell0 (Sh.byC hC (j := 0) (by simp)) (fun h => h))) rfl ?_
      refine GL.val (rv_assign rfl) rfl ?_
      refine GL.nil ?_
      refine GX.then ?_
      refine GC.ret ?_
      refine GX.ret1 rfl (RR.tmp rfl) ?_
      exact fun w9 h => ⟨(), (by rw [hok]; simp at c34; rw [c34]; rfl), by
          exact h, trivial⟩
theorem kind_c (A : Option Addr) (n c : Nat) (bs : Sh.B) (w : World) (hR : SlR w A (byts bs)) (hl : bs.length = n) (hn : n < 4611686018427387904) : Calls Try.prog 27 [.slice A n c].toArray w fun e w' => ∃ _g : Unit, e = .returned (v8 (kind bs)) ∧ St noB w w' [] ∧ True := by
  by_cases h0 : n = 0
  · subst h0
    obtain rfl := List.eq_nil_of_length_eq_zero hl
    exact kind_nil A c w
  · have hne : byts bs ≠ [] := fun e => by have := congrArg List.length e; rw [byts_len] at this; simp at this; subst this; simp at hl; omega
    obtain ⟨b, o, rfl, hC⟩ := hR.resolve_left hne
    by_cases h1 : bs.getD 0 0 = 69
    · exact kind_69 b o n c bs w hC hl hn h1 (by omega)
    by_cases h2 : bs.getD 0 0 = 76
    · exact kind_76 b o n c bs w hC hl hn h2 (by omega)
    by_cases h3 : bs.getD 0 0 = 78
    · exact kind_78 b o n c bs w hC hl hn h3 (by omega)
    by_cases h4 : bs.getD 0 0 = 86
    · exact kind_86 b o n c bs w hC hl hn h4 (by omega)
    by_cases h5 : bs.getD 0 0 = 82
    · exact kind_82 b o n c bs w hC hl hn h5 (by omega)
    exact kind_no b o n c bs w hC hl hn h1 h2 h3 h4 h5 (by omega)
end Go.Proofs.Ytaocclmdlpnjbaa
