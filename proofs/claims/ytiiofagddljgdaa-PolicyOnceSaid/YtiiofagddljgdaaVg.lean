import Derived.Test.YtiiofagddljgdaaVf
set_option linter.unusedVariables false
set_option linter.unusedSimpArgs false
namespace Go.Proofs.Ytiiofagddljgdaa
open Go Go.RowKit Go.Bz
theorem hb_14 : hasBody Try.prog 14 = true := by kernel_rfl
theorem hb_15 : hasBody Try.prog 15 = true := by kernel_rfl
theorem nxt_ok {hv : Bool} {cn : ByteArray} {ck : Sh.B} {cs : UInt64} {kd : Int} {qn : ByteArray} {qk dg : Sh.B} (h : nxt hv cn ck cs kd qn qk dg = 0) :
    chk qn qk = 0 ∧ (hv = true → kd = 2 ∧ cn = qn ∧ cs ≠ 18446744073709551615 ∧ dg = auth ck qn (cs + 1) qk) ∧ (hv = false → kd = 1 ∧ dg = zdg) := by
  unfold nxt at h
  by_cases h1 : pchk kd qn qk ≠ 0
  · rw [if_pos h1] at h; exact absurd h h1
  rw [if_neg h1] at h
  by_cases h2 : hv = true ∧ cn ≠ qn
  · rw [if_pos h2] at h; cases h
  rw [if_neg h2] at h
  have hk : ¬ (kd ≠ 1 ∧ kd ≠ 2) := by
    intro hh; apply h1; unfold pchk; rw [if_pos hh]; decide
  have hc : chk qn qk = 0 := by
    have : pchk kd qn qk = chk qn qk := by unfold pchk; rw [if_neg hk]
    rw [← this]; simpa using h1
  refine ⟨hc, fun hv1 => ?_, fun hv0 => ?_⟩
  · subst hv1
    by_cases h3 : kd = 1
    · rw [if_pos h3, if_pos rfl] at h; cases h
    rw [if_neg h3, if_neg (by decide)] at h
    by_cases h4 : cs = 18446744073709551615
    · rw [if_pos h4] at h; cases h
    rw [if_neg h4] at h
    by_cases h5 : dg ≠ auth ck qn (cs + 1) qk
    · rw [if_pos h5] at h; cases h
    refine ⟨?_, ?_, h4, by simpa using h5⟩
    · omega
    · exact Decidable.byContradiction fun hh => h2 ⟨rfl, hh⟩
  · subst hv0
    by_cases h3 : kd = 1
    · rw [if_pos h3, if_neg (by decide)] at h
      by_cases h5 : dg ≠ zdg
      · rw [if_pos h5] at h; cases h
      · exact ⟨h3, by simpa using h5⟩
    · rw [if_neg h3, if_pos rfl] at h; cases h
set_option maxRecDepth 100000 in
set_option maxHeartbeats 1000000 in
theorem names_law (hv : Bool) (cn : ByteArray) (ck : Sh.B) (cA : Option Addr) (cc : Nat) (cs : UInt64) (kd : Int) (qn : ByteArray) (qk : Sh.B) (qA : Option Addr) (qc : Nat) (dg : Sh.B) (w : World) (hck : SlR w cA (byts ck)) (hcc : ck.length ≤ cc) (hd : dg.length = 32) (hqs : qn.size < 4611686018427387904) (hqk : SlR w qA (byts qk)) (hqc : qk.length ≤ qc) (hwk : ∀ w : World, Calls Try.prog 9 [].toArray w fun e w' => ∃ _g : Unit, e = .returned (.bool true) ∧ St noB w w' [] ∧ True) : Calls Try.prog 7 [.agg (bcell cn ck cA cc cs).toArray, .bool hv, .agg (qcell kd qn qk qA qc dg).toArray].toArray w fun e w' => ∃ _g : Unit, e = .returned (.bool true) ∧ St noB w w' [] ∧ True := by
  refine GC.calls Try.func7 rfl rfl (St.begin _) ?_
  refine GC.seq ?_
  refine GC.reg ?_
  refine GL.step (ot_box rfl rfl rfl fun b3 => ?_)
  refine GL.step (ot_box rfl rfl rfl fun b5 => ?_)
  refine GL.val (rv_assign rfl) rfl ?_
  refine GL.nil ?_
  refine GX.then ?_
  refine GC.seq ?_
  refine GC.seq ?_
  refine GC.cutq (γ := Unit) [5, 3, 1] [1, 0] (fun g Lk => (18, .bool (decide (2000 < ck.length ∨ 2000 < qk.length))) :: Lk) (fun g Fk => Fk) (fun g => True) rfl rfl ?_ (fun _ _ => ?_)
  · rcases (by omega : (2000 < ck.length) ∨ (ck.length ≤ 2000 ∧ 2000 < qk.length) ∨ (ck.length ≤ 2000 ∧ qk.length ≤ 2000)) with h | h | h
    · have hb1 : decide (ck.length ≤ 2000) = false := decide_eq_false (by omega)
      have hb2 : decide (qk.length ≤ 2000) = decide (qk.length ≤ 2000) := rfl
      rw [show decide (2000 < ck.length ∨ 2000 < qk.length) = true from decide_eq_true (by omega)]
      refine GC.reg ?_
      refine GL.val (rv_field fo_25_1 rfl rfl) rfl ?_
      refine GL.val (rv_load ag_22 rfl (by first | exact Hd.cell (k := 1) rfl rfl | exact Hd.rowCell (k := 1) rfl (by assumption))) rfl ?_
      refine GL.step (ot_call hb_8 rfl (callOk fun w hh => few2_b _ cA _ cc w hb1) rfl fun _ _ => ?_)
      refine GL.val (rv_not rfl) rfl ?_
      refine GL.val (rv_move rfl) rfl ?_
      first | refine GL.skipG rfl rfl ?_ | refine GL.skipU rfl rfl ?_ | refine GL.valT rfl (rv_field fo_29_2 rfl rfl) rfl ?_ | refine GL.valG rfl (fun hb => rv_field fo_29_2 (by first | exact evb rfl hb | rfl) (by first | exact evb rfl hb | rfl)) rfl ?_
      first | refine GL.skipG rfl rfl ?_ | refine GL.skipU rfl rfl ?_ | refine GL.valT rfl (rv_load ag_22 rfl (by first | exact Hd.cell (k := 0) rfl rfl | exact Hd.rowCell (k := 0) rfl (by assumption))) rfl ?_ | refine GL.valG rfl (fun hb => rv_load ag_22 (by first | exact evb rfl hb | rfl) (by first | exact Hd.cell (k := 0) (by first | exact evb rfl hb | rfl) (by first | exact evb rfl hb | rfl) | exact Hd.rowCell (k := 0) (by first | exact evb rfl hb | rfl) (by assumption))) rfl ?_
      first | refine GL.skipG rfl rfl ?_ | refine GL.skipU rfl rfl ?_ | refine GL.stepG rfl (ot_call hb_8 rfl (callOk fun w hh => few2_b _ qA _ qc w hb2) rfl fun _ _ => ?_)
      first | refine GL.skipG rfl rfl ?_ | refine GL.skipU rfl rfl ?_ | refine GL.valT rfl (rv_not rfl) rfl ?_ | refine GL.valG rfl (fun hb => rv_not (by first | exact evb rfl hb | rfl)) rfl ?_
      refine GL.val ((by first | exact rv_orF rfl rfl rfl | exact rv_orT rfl rfl rfl | exact rv_pickOr rfl rfl rfl)) rfl ?_
      refine GL.nil ?_
      exact GX.cutq () trivial (by repeat (first | exact Sub.nil | refine Sub.cons rfl ?_)) (fun w9 h => by
          exact h)
    · have hb1 : decide (ck.length ≤ 2000) = true := decide_eq_true (by omega)
      have hb2 : decide (qk.length ≤ 2000) = false := decide_eq_false (by omega)
      rw [show decide (2000 < ck.length ∨ 2000 < qk.length) = true from decide_eq_true (by omega)]
      refine GC.reg ?_
      refine GL.val (rv_field fo_25_1 rfl rfl) rfl ?_
      refine GL.val (rv_load ag_22 rfl (by first | exact Hd.cell (k := 1) rfl rfl | exact Hd.rowCell (k := 1) rfl (by assumption))) rfl ?_
      refine GL.step (ot_call hb_8 rfl (callOk fun w hh => few2_b _ cA _ cc w hb1) rfl fun _ _ => ?_)
      refine GL.val (rv_not rfl) rfl ?_
      refine GL.val (rv_move rfl) rfl ?_
      first | refine GL.skipG rfl rfl ?_ | refine GL.skipU rfl rfl ?_ | refine GL.valT rfl (rv_field fo_29_2 rfl rfl) rfl ?_ | refine GL.valG rfl (fun hb => rv_field fo_29_2 (by first | exact evb rfl hb | rfl) (by first | exact evb rfl hb | rfl)) rfl ?_
      first | refine GL.skipG rfl rfl ?_ | refine GL.skipU rfl rfl ?_ | refine GL.valT rfl (rv_load ag_22 rfl (by first | exact Hd.cell (k := 0) rfl rfl | exact Hd.rowCell (k := 0) rfl (by assumption))) rfl ?_ | refine GL.valG rfl (fun hb => rv_load ag_22 (by first | exact evb rfl hb | rfl) (by first | exact Hd.cell (k := 0) (by first | exact evb rfl hb | rfl) (by first | exact evb rfl hb | rfl) | exact Hd.rowCell (k := 0) (by first | exact evb rfl hb | rfl) (by assumption))) rfl ?_
      first | refine GL.skipG rfl rfl ?_ | refine GL.skipU rfl rfl ?_ | refine GL.stepG rfl (ot_call hb_8 rfl (callOk fun w hh => few2_b _ qA _ qc w hb2) rfl fun _ _ => ?_)
      first | refine GL.skipG rfl rfl ?_ | refine GL.skipU rfl rfl ?_ | refine GL.valT rfl (rv_not rfl) rfl ?_ | refine GL.valG rfl (fun hb => rv_not (by first | exact evb rfl hb | rfl)) rfl ?_
      refine GL.val ((by first | exact rv_orF rfl rfl rfl | exact rv_orT rfl rfl rfl | exact rv_pickOr rfl rfl rfl)) rfl ?_
      refine GL.nil ?_
      exact GX.cutq () trivial (by repeat (first | exact Sub.nil | refine Sub.cons rfl ?_)) (fun w9 h => by
          exact h)
    · have hb1 : decide (ck.length ≤ 2000) = true := decide_eq_true (by omega)
      have hb2 : decide (qk.length ≤ 2000) = true := decide_eq_true (by omega)
      rw [show decide (2000 < ck.length ∨ 2000 < qk.length) = false from decide_eq_false (by omega)]
      refine GC.reg ?_
      refine GL.val (rv_field fo_25_1 rfl rfl) rfl ?_
      refine GL.val (rv_load ag_22 rfl (by first | exact Hd.cell (k := 1) rfl rfl | exact Hd.rowCell (k := 1) rfl (by assumption))) rfl ?_
      refine GL.step (ot_call hb_8 rfl (callOk fun w hh => few2_b _ cA _ cc w hb1) rfl fun _ _ => ?_)
      refine GL.val (rv_not rfl) rfl ?_
      refine GL.val (rv_move rfl) rfl ?_
      first | refine GL.skipG rfl rfl ?_ | refine GL.skipU rfl rfl ?_ | refine GL.valT rfl (rv_field fo_29_2 rfl rfl) rfl ?_ | refine GL.valG rfl (fun hb => rv_field fo_29_2 (by first | exact evb rfl hb | rfl) (by first | exact evb rfl hb | rfl)) rfl ?_
      first | refine GL.skipG rfl rfl ?_ | refine GL.skipU rfl rfl ?_ | refine GL.valT rfl (rv_load ag_22 rfl (by first | exact Hd.cell (k := 0) rfl rfl | exact Hd.rowCell (k := 0) rfl (by assumption))) rfl ?_ | refine GL.valG rfl (fun hb => rv_load ag_22 (by first | exact evb rfl hb | rfl) (by first | exact Hd.cell (k := 0) (by first | exact evb rfl hb | rfl) (by first | exact evb rfl hb | rfl) | exact Hd.rowCell (k := 0) (by first | exact evb rfl hb | rfl) (by assumption))) rfl ?_
      first | refine GL.skipG rfl rfl ?_ | refine GL.skipU rfl rfl ?_ | refine GL.stepG rfl (ot_call hb_8 rfl (callOk fun w hh => few2_b _ qA _ qc w hb2) rfl fun _ _ => ?_)
      first | refine GL.skipG rfl rfl ?_ | refine GL.skipU rfl rfl ?_ | refine GL.valT rfl (rv_not rfl) rfl ?_ | refine GL.valG rfl (fun hb => rv_not (by first | exact evb rfl hb | rfl)) rfl ?_
      refine GL.val ((by first | exact rv_orF rfl rfl rfl | exact rv_orT rfl rfl rfl | exact rv_pickOr rfl rfl rfl)) rfl ?_
      refine GL.nil ?_
      exact GX.cutq () trivial (by repeat (first | exact Sub.nil | refine Sub.cons rfl ?_)) (fun w9 h => by
          exact h)
  refine GX.then ?_
  first | refine GC.condP rfl (fun c18 => ?_) (fun c18 => ?_) | refine GC.cond rfl (fun c18 => ?_) (fun c18 => ?_)
  · skip
    refine GC.seq ?_
    refine GC.reg ?_
    refine GL.step (ot_call hb_9 rfl (callOk fun w hh => hwk w) rfl fun _ _ => ?_)
    refine GL.val (rv_assign rfl) rfl ?_
    refine GL.nil ?_
    refine GX.then ?_
    refine GC.ret ?_
    refine GX.then_ret ?_
    refine GX.ret1 rfl (RR.tmp rfl) ?_
    exact fun w9 h => ⟨(), rfl, by
        have h := h.sel [] rfl rfl
        exact h, trivial⟩
  · have hf : ¬ (2000 < ck.length ∨ 2000 < qk.length) := by simpa using c18
    refine GC.skip ?_
    refine GX.then ?_
    refine GC.seq ?_
    refine GC.reg ?_
    refine GL.val (rv_loadAL ag_25 rfl (by first | exact Hd.cellsAll (k := 1) rfl | exact Hd.cells (k := 1) rfl rfl) (by exact sz_25) (by first | (first | exact qc_len hd) | rfl)) rfl ?_
    refine GL.val (rv_move rfl) rfl ?_
    refine GL.val (rv_loadAL ag_29 rfl (by first | exact Hd.cellsAll (k := 0) rfl | exact Hd.cells (k := 0) rfl rfl) (by exact sz_29) (by first | (first | exact qc_len hd) | rfl)) rfl ?_
    refine GL.step (ot_call hb_10 rfl (callOk fun w hh => next_c hv cn ck cA cc cs kd qn qk qA qc dg w (hh.rd0n hck) hcc (by omega) hd hqs (hh.rd0n hqk) hqc (by omega)) rfl fun g24 h24 => ?_)
    refine GL.val (rv_move rfl) rfl ?_
    refine GL.val (rv_extract rfl rfl) rfl ?_
    refine GL.val (rv_extract rfl rfl) rfl ?_
    refine GL.step (ot_alloc (zs := [.string ByteArray.empty, .slice none 0 0, .int .u64 0]) zb_25 rfl rfl fun b7 => ?_)
    refine GL.step (ot_store (k := 0) rfl rfl rfl rfl sz_25 rfl rfl (by first | ((simp only [repl, List.set_cons_zero, List.set_cons_succ]) <;> rfl) | rfl) ?_)
    refine GL.val (rv_assign rfl) rfl ?_
    refine GL.nil ?_
    refine GX.then ?_
    refine GC.seq ?_
    refine GC.seq ?_
    refine GC.reg ?_
    refine GL.val (rv_move rfl) rfl ?_
    refine GL.val (rv_neI rfl rfl) rfl ?_
    refine GL.nil ?_
    refine GX.then ?_
    first | refine GC.condP rfl (fun c28 => ?_) (fun c28 => ?_) | refine GC.cond rfl (fun c28 => ?_) (fun c28 => ?_)
    · have hz : nxt hv cn ck cs kd qn qk dg ≠ 0 := by simpa using c28
      rw [rn_no hz, rk_no hz, rs_no hz]
      refine GC.seq ?_
      refine GC.reg ?_
      refine GL.val (rv_loadAL ag_25 rfl (by first | exact Hd.cellsAll (k := 0) rfl | exact Hd.cells (k := 0) rfl rfl) (by exact sz_25) (by first | (first | exact qc_len hd) | rfl)) rfl ?_
      refine GL.val (rv_to (v' := .agg (bcell ByteArray.empty [] none 0 0).toArray) (rv_buildS pl_25 zb_25 rfl rfl rfl) rfl) rfl ?_
      refine GL.step (ot_call hb_12 rfl (callOk fun w hh => sbind_t _ _ _ _ _ _ _ w (.inl rfl) (.inl rfl)) rfl fun _ _ => ?_)
      refine GL.val (rv_move rfl) rfl ?_
      first | refine GL.skipG rfl rfl ?_ | refine GL.skipU rfl rfl ?_ | refine GL.stepG rfl (ot_call hb_9 rfl (callOk fun w hh => hwk w) rfl fun _ _ => ?_)
      refine GL.val ((by first | exact rv_andT rfl rfl rfl | exact rv_andF rfl rfl rfl | exact rv_pickAnd rfl rfl rfl)) rfl ?_
      refine GL.val (rv_assign rfl) rfl ?_
      refine GL.nil ?_
      refine GX.then ?_
      refine GC.ret ?_
      refine GX.then_ret ?_
      refine GX.ret1 rfl (RR.tmp rfl) ?_
      exact fun w9 h => ⟨(), rfl, by
          have h := h.sel [] rfl rfl
          exact h, trivial⟩
    · have hz : nxt hv cn ck cs kd qn qk dg = 0 := by simpa using c28
      obtain ⟨hc, hv1, hv0⟩ := nxt_ok hz
      rw [hz]
      simp only [rn_0, rk_0, rs_0]
      rw [hz, rk_0] at h24
      refine GC.skip ?_
      refine GX.then ?_
      refine GC.seq ?_
      refine GC.seq ?_
      refine GC.reg ?_
      refine GL.val (rv_field fo_25_0 rfl rfl) rfl ?_
      refine GL.val (rv_load ag_9 rfl (by first | exact Hd.cell (k := 0) rfl rfl | exact Hd.rowCell (k := 0) rfl (by assumption))) rfl ?_
      refine GL.val (rv_field fo_29_1 rfl rfl) rfl ?_
      refine GL.val (rv_load ag_9 rfl (by first | exact Hd.cell (k := 2) rfl rfl | exact Hd.rowCell (k := 2) rfl (by assumption))) rfl ?_
      refine GL.val (rv_to (v' := .bool false) (rv_neS rfl rfl) (by simp)) rfl ?_
      refine GL.val (rv_move rfl) rfl ?_
      first | refine GL.skipG rfl rfl ?_ | refine GL.skipU rfl rfl ?_ | refine GL.valT rfl (rv_field fo_25_1 rfl rfl) rfl ?_ | refine GL.valG rfl (fun hb => rv_field fo_25_1 (by first | exact evb rfl hb | rfl) (by first | exact evb rfl hb | rfl)) rfl ?_
      first | refine GL.skipG rfl rfl ?_ | refine GL.skipU rfl rfl ?_ | refine GL.valT rfl (rv_load ag_22 rfl (by first | exact Hd.cell (k := 0) rfl rfl | exact Hd.rowCell (k := 0) rfl (by assumption))) rfl ?_ | refine GL.valG rfl (fun hb => rv_load ag_22 (by first | exact evb rfl hb | rfl) (by first | exact Hd.cell (k := 0) (by first | exact evb rfl hb | rfl) (by first | exact evb rfl hb | rfl) | exact Hd.rowCell (k := 0) (by first | exact evb rfl hb | rfl) (by assumption))) rfl ?_
      first | refine GL.skipG rfl rfl ?_ | refine GL.skipU rfl rfl ?_ | refine GL.valT rfl (rv_convBS (b := qk) Try.underlying22 Try.underlying5 Try.underlying9 rfl (fun w h => h.ro (k := 1) rfl) rfl) rfl ?_ | refine GL.valG rfl (fun hb => rv_convBS (b := qk) Try.underlying22 Try.underlying5 Try.underlying9 (by first | exact evb rfl hb | rfl) (fun w h => h.ro (k := 1) (by first | exact evb rfl hb | rfl)) (by first | exact evb rfl hb | rfl)) rfl ?_
      first | refine GL.skipG rfl rfl ?_ | refine GL.skipU rfl rfl ?_ | refine GL.valT rfl (rv_field fo_29_2 rfl rfl) rfl ?_ | refine GL.valG rfl (fun hb => rv_field fo_29_2 (by first | exact evb rfl hb | rfl) (by first | exact evb rfl hb | rfl)) rfl ?_
      first | refine GL.skipG rfl rfl ?_ | refine GL.skipU rfl rfl ?_ | refine GL.valT rfl (rv_load ag_22 rfl (by first | exact Hd.cell (k := 2) rfl rfl | exact Hd.rowCell (k := 2) rfl (by assumption))) rfl ?_ | refine GL.valG rfl (fun hb => rv_load ag_22 (by first | exact evb rfl hb | rfl) (by first | exact Hd.cell (k := 2) (by first | exact evb rfl hb | rfl) (by first | exact evb rfl hb | rfl) | exact Hd.rowCell (k := 2) (by first | exact evb rfl hb | rfl) (by assumption))) rfl ?_
      first | refine GL.skipG rfl rfl ?_ | refine GL.skipU rfl rfl ?_ | refine GL.valT rfl (rv_convBS Try.underlying22 Try.underlying5 Try.underlying9 rfl (fun w h => h.rd0n hqk) rfl) rfl ?_ | refine GL.valG rfl (fun hb => rv_convBS Try.underlying22 Try.underlying5 Try.underlying9 (by first | exact evb rfl hb | rfl) (fun w h => h.rd0n hqk) (by first | exact evb rfl hb | rfl)) rfl ?_
      first | refine GL.skipG rfl rfl ?_ | refine GL.skipU rfl rfl ?_ | refine GL.valT rfl (rv_to (v' := .bool false) (rv_neS rfl rfl) (by simp)) rfl ?_ | refine GL.valG rfl (fun hb => rv_to (v' := .bool false) (rv_neS (by first | exact evb rfl hb | rfl) (by first | exact evb rfl hb | rfl)) (by simp)) rfl ?_
      refine GL.val ((by first | exact rv_orF rfl rfl rfl | exact rv_orT rfl rfl rfl | exact rv_pickOr rfl rfl rfl)) rfl ?_
      refine GL.val (rv_move rfl) rfl ?_
      first | refine GL.skipG rfl rfl ?_ | refine GL.skipU rfl rfl ?_ | refine GL.valT rfl (rv_field fo_25_0 rfl rfl) rfl ?_ | refine GL.valG rfl (fun hb => rv_field fo_25_0 (by first | exact evb rfl hb | rfl) (by first | exact evb rfl hb | rfl)) rfl ?_
      first | refine GL.skipG rfl rfl ?_ | refine GL.skipU rfl rfl ?_ | refine GL.valT rfl (rv_load ag_9 rfl (by first | exact Hd.cell (k := 0) rfl rfl | exact Hd.rowCell (k := 0) rfl (by assumption))) rfl ?_ | refine GL.valG rfl (fun hb => rv_load ag_9 (by first | exact evb rfl hb | rfl) (by first | exact Hd.cell (k := 0) (by first | exact evb rfl hb | rfl) (by first | exact evb rfl hb | rfl) | exact Hd.rowCell (k := 0) (by first | exact evb rfl hb | rfl) (by assumption))) rfl ?_
      first | refine GL.skipG rfl rfl ?_ | refine GL.skipU rfl rfl ?_ | refine GL.valT rfl (rv_field fo_25_1 rfl rfl) rfl ?_ | refine GL.valG rfl (fun hb => rv_field fo_25_1 (by first | exact evb rfl hb | rfl) (by first | exact evb rfl hb | rfl)) rfl ?_
      first | refine GL.skipG rfl rfl ?_ | refine GL.skipU rfl rfl ?_ | refine GL.valT rfl (rv_load ag_22 rfl (by first | exact Hd.cell (k := 0) rfl rfl | exact Hd.rowCell (k := 0) rfl (by assumption))) rfl ?_ | refine GL.valG rfl (fun hb => rv_load ag_22 (by first | exact evb rfl hb | rfl) (by first | exact Hd.cell (k := 0) (by first | exact evb rfl hb | rfl) (by first | exact evb rfl hb | rfl) | exact Hd.rowCell (k := 0) (by first | exact evb rfl hb | rfl) (by assumption))) rfl ?_
      first | refine GL.skipG rfl rfl ?_ | refine GL.skipU rfl rfl ?_ | refine GL.stepG rfl (ot_call hb_16 rfl (callOk fun w hh => rcheck_c qn _ _ _ qk w hqs rfl) rfl fun _ _ => ?_)
      first | refine GL.skipG rfl rfl ?_ | refine GL.skipU rfl rfl ?_ | refine GL.valT rfl ((by first | exact rv_to (v' := .bool true) (rv_neI rfl rfl) (by simp only [Value.bool.injEq, decide_eq_true_eq, decide_eq_false_iff_not]; first | assumption | omega) | exact rv_to (v' := .bool false) (rv_neI rfl rfl) (by simp only [Value.bool.injEq, decide_eq_true_eq, decide_eq_false_iff_not]; first | assumption | omega))) rfl ?_ | refine GL.valG rfl (fun hb => (by first | exact rv_to (v' := .bool true) (rv_neI (by first | exact evb rfl hb | rfl) (by first | exact evb rfl hb | rfl)) (by simp only [Value.bool.injEq, decide_eq_true_eq, decide_eq_false_iff_not]; first | assumption | omega) | exact rv_to (v' := .bool false) (rv_neI (by first | exact evb rfl hb | rfl) (by first | exact evb rfl hb | rfl)) (by simp only [Value.bool.injEq, decide_eq_true_eq, decide_eq_false_iff_not]; first | assumption | omega))) rfl ?_
      refine GL.val ((by first | exact rv_orF rfl rfl rfl | exact rv_orT rfl rfl rfl | exact rv_pickOr rfl rfl rfl)) rfl ?_
      refine GL.nil ?_
      refine GX.then ?_
      first | refine GC.condP rfl (fun c56 => ?_) (fun c56 => ?_) | refine GC.cond rfl (fun c56 => ?_) (fun c56 => ?_)
      · cases c56
      · skip
        refine GC.skip ?_
        refine GX.then ?_
        refine GC.seq ?_
        refine GC.seq ?_
        refine GC.reg ?_
        refine GL.val (rv_move rfl) rfl ?_
        refine GL.nil ?_
        refine GX.then ?_
        first | refine GC.condP rfl (fun c57 => ?_) (fun c57 => ?_) | refine GC.cond rfl (fun c57 => ?_) (fun c57 => ?_)
        · have c57' : hv = true := by simpa using c57
          obtain ⟨e1, e2, _, _⟩ := hv1 c57'
          have e3 : nser kd cs = cs + 1 := if_neg (by rw [e1]; decide)
          rw [e3]
          refine GC.seq ?_
          refine GC.reg ?_
          refine GL.val (rv_field fo_29_0 rfl rfl) rfl ?_
          refine GL.val (rv_load ag_3 rfl (by first | exact Hd.cell (k := 2) rfl rfl | exact Hd.rowCell (k := 2) rfl (by assumption))) rfl ?_
          refine GL.val (rv_to (v' := .bool true) (rv_eqI rfl rfl) (by exact congrArg Value.bool (decide_eq_true e1))) rfl ?_
          refine GL.val (rv_move rfl) rfl ?_
          first | refine GL.skipG rfl rfl ?_ | refine GL.skipU rfl rfl ?_ | refine GL.valT rfl (rv_field fo_25_0 rfl rfl) rfl ?_ | refine GL.valG rfl (fun hb => rv_field fo_25_0 (by first | exact evb rfl hb | rfl) (by first | exact evb rfl hb | rfl)) rfl ?_
          first | refine GL.skipG rfl rfl ?_ | refine GL.skipU rfl rfl ?_ | refine GL.valT rfl (rv_load ag_9 rfl (by first | exact Hd.cell (k := 3) rfl rfl | exact Hd.rowCell (k := 3) rfl (by assumption))) rfl ?_ | refine GL.valG rfl (fun hb => rv_load ag_9 (by first | exact evb rfl hb | rfl) (by first | exact Hd.cell (k := 3) (by first | exact evb rfl hb | rfl) (by first | exact evb rfl hb | rfl) | exact Hd.rowCell (k := 3) (by first | exact evb rfl hb | rfl) (by assumption))) rfl ?_
          first | refine GL.skipG rfl rfl ?_ | refine GL.skipU rfl rfl ?_ | refine GL.valT rfl (rv_field fo_25_0 rfl rfl) rfl ?_ | refine GL.valG rfl (fun hb => rv_field fo_25_0 (by first | exact evb rfl hb | rfl) (by first | exact evb rfl hb | rfl)) rfl ?_
          first | refine GL.skipG rfl rfl ?_ | refine GL.skipU rfl rfl ?_ | refine GL.valT rfl (rv_load ag_9 rfl (by first | exact Hd.cell (k := 0) rfl rfl | exact Hd.rowCell (k := 0) rfl (by assumption))) rfl ?_ | refine GL.valG rfl (fun hb => rv_load ag_9 (by first | exact evb rfl hb | rfl) (by first | exact Hd.cell (k := 0) (by first | exact evb rfl hb | rfl) (by first | exact evb rfl hb | rfl) | exact Hd.rowCell (k := 0) (by first | exact evb rfl hb | rfl) (by assumption))) rfl ?_
          first | refine GL.skipG rfl rfl ?_ | refine GL.skipU rfl rfl ?_ | refine GL.valT rfl (rv_to (v' := .bool true) (rv_eqS rfl rfl) (by exact congrArg Value.bool (decide_eq_true e2))) rfl ?_ | refine GL.valG rfl (fun hb => rv_to (v' := .bool true) (rv_eqS (by first | exact evb rfl hb | rfl) (by first | exact evb rfl hb | rfl)) (by exact congrArg Value.bool (decide_eq_true e2))) rfl ?_
          refine GL.val ((by first | exact rv_andT rfl rfl rfl | exact rv_andF rfl rfl rfl | exact rv_pickAnd rfl rfl rfl)) rfl ?_
          refine GL.val (rv_move rfl) rfl ?_
          first | refine GL.skipG rfl rfl ?_ | refine GL.skipU rfl rfl ?_ | refine GL.valT rfl (rv_field fo_25_2 rfl rfl) rfl ?_ | refine GL.valG rfl (fun hb => rv_field fo_25_2 (by first | exact evb rfl hb | rfl) (by first | exact evb rfl hb | rfl)) rfl ?_
          first | refine GL.skipG rfl rfl ?_ | refine GL.skipU rfl rfl ?_ | refine GL.valT rfl (rv_load ag_23 rfl (by first | exact Hd.cell (k := 0) rfl rfl | exact Hd.rowCell (k := 0) rfl (by assumption))) rfl ?_ | refine GL.valG rfl (fun hb => rv_load ag_23 (by first | exact evb rfl hb | rfl) (by first | exact Hd.cell (k := 0) (by first | exact evb rfl hb | rfl) (by first | exact evb rfl hb | rfl) | exact Hd.rowCell (k := 0) (by first | exact evb rfl hb | rfl) (by assumption))) rfl ?_
          first | refine GL.skipG rfl rfl ?_ | refine GL.skipU rfl rfl ?_ | refine GL.valT rfl (rv_field fo_25_2 rfl rfl) rfl ?_ | refine GL.valG rfl (fun hb => rv_field fo_25_2 (by first | exact evb rfl hb | rfl) (by first | exact evb rfl hb | rfl)) rfl ?_
          first | refine GL.skipG rfl rfl ?_ | refine GL.skipU rfl rfl ?_ | refine GL.valT rfl (rv_load ag_23 rfl (by first | exact Hd.cell (k := 3) rfl rfl | exact Hd.rowCell (k := 3) rfl (by assumption))) rfl ?_ | refine GL.valG rfl (fun hb => rv_load ag_23 (by first | exact evb rfl hb | rfl) (by first | exact Hd.cell (k := 3) (by first | exact evb rfl hb | rfl) (by first | exact evb rfl hb | rfl) | exact Hd.rowCell (k := 3) (by first | exact evb rfl hb | rfl) (by assumption))) rfl ?_
          first | refine GL.skipG rfl rfl ?_ | refine GL.skipU rfl rfl ?_ | refine GL.valT rfl (rv_add64 (b := 1) rfl rfl) rfl ?_ | refine GL.valG rfl (fun hb => rv_add64 (b := 1) (by first | exact evb rfl hb | rfl) (by first | exact evb rfl hb | rfl)) rfl ?_
          first | refine GL.skipG rfl rfl ?_ | refine GL.skipU rfl rfl ?_ | refine GL.valT rfl (rv_to (v' := .bool true) (rv_eq64 rfl rfl) (by simp)) rfl ?_ | refine GL.valG rfl (fun hb => rv_to (v' := .bool true) (rv_eq64 (by first | exact evb rfl hb | rfl) (by first | exact evb rfl hb | rfl)) (by simp)) rfl ?_
          refine GL.val ((by first | exact rv_andT rfl rfl rfl | exact rv_andF rfl rfl rfl | exact rv_pickAnd rfl rfl rfl)) rfl ?_
          refine GL.val (rv_move rfl) rfl ?_
          first | refine GL.skipG rfl rfl ?_ | refine GL.skipU rfl rfl ?_ | refine GL.stepG rfl (ot_call hb_9 rfl (callOk fun w hh => hwk w) rfl fun _ _ => ?_)
          refine GL.val ((by first | exact rv_andT rfl rfl rfl | exact rv_andF rfl rfl rfl | exact rv_pickAnd rfl rfl rfl)) rfl ?_
          refine GL.val (rv_assign rfl) rfl ?_
          refine GL.nil ?_
          refine GX.then ?_
          refine GC.ret ?_
          refine GX.then_ret ?_
          refine GX.ret1 rfl (RR.tmp rfl) ?_
          exact fun w9 h => ⟨(), rfl, by
              have h := h.sel [] rfl rfl
              exact h, trivial⟩
        · have c57' : hv = false := by simpa using c57
          obtain ⟨e1, _⟩ := hv0 c57'
          have e3 : nser kd cs = 1 := if_pos e1
          rw [e3]
          refine GC.skip ?_
          refine GX.then ?_
          refine GC.seq ?_
          refine GC.reg ?_
          refine GL.val (rv_field fo_29_0 rfl rfl) rfl ?_
          refine GL.val (rv_load ag_3 rfl (by first | exact Hd.cell (k := 2) rfl rfl | exact Hd.rowCell (k := 2) rfl (by assumption))) rfl ?_
          refine GL.val (rv_to (v' := .bool true) (rv_eqI rfl rfl) (by exact congrArg Value.bool (decide_eq_true e1))) rfl ?_
          refine GL.val (rv_move rfl) rfl ?_
          first | refine GL.skipG rfl rfl ?_ | refine GL.skipU rfl rfl ?_ | refine GL.valT rfl (rv_field fo_25_2 rfl rfl) rfl ?_ | refine GL.valG rfl (fun hb => rv_field fo_25_2 (by first | exact evb rfl hb | rfl) (by first | exact evb rfl hb | rfl)) rfl ?_
          first | refine GL.skipG rfl rfl ?_ | refine GL.skipU rfl rfl ?_ | refine GL.valT rfl (rv_load ag_23 rfl (by first | exact Hd.cell (k := 0) rfl rfl | exact Hd.rowCell (k := 0) rfl (by assumption))) rfl ?_ | refine GL.valG rfl (fun hb => rv_load ag_23 (by first | exact evb rfl hb | rfl) (by first | exact Hd.cell (k := 0) (by first | exact evb rfl hb | rfl) (by first | exact evb rfl hb | rfl) | exact Hd.rowCell (k := 0) (by first | exact evb rfl hb | rfl) (by assumption))) rfl ?_
          first | refine GL.skipG rfl rfl ?_ | refine GL.skipU rfl rfl ?_ | refine GL.valT rfl (rv_to (v' := .bool true) (rv_eq64 (b := 1) rfl rfl) (by simp)) rfl ?_ | refine GL.valG rfl (fun hb => rv_to (v' := .bool true) (rv_eq64 (b := 1) (by first | exact evb rfl hb | rfl) (by first | exact evb rfl hb | rfl)) (by simp)) rfl ?_
          refine GL.val ((by first | exact rv_andT rfl rfl rfl | exact rv_andF rfl rfl rfl | exact rv_pickAnd rfl rfl rfl)) rfl ?_
          refine GL.val (rv_move rfl) rfl ?_
          first | refine GL.skipG rfl rfl ?_ | refine GL.skipU rfl rfl ?_ | refine GL.stepG rfl (ot_call hb_9 rfl (callOk fun w hh => hwk w) rfl fun _ _ => ?_)
          refine GL.val ((by first | exact rv_andT rfl rfl rfl | exact rv_andF rfl rfl rfl | exact rv_pickAnd rfl rfl rfl)) rfl ?_
          refine GL.val (rv_assign rfl) rfl ?_
          refine GL.nil ?_
          refine GX.then ?_
          refine GC.ret ?_
          refine GX.ret1 rfl (RR.tmp rfl) ?_
          exact fun w9 h => ⟨(), rfl, by
              have h := h.sel [] rfl rfl
              exact h, trivial⟩
theorem nxt_ask {cn : ByteArray} {ck : Sh.B} {cs : UInt64} {qk dg : Sh.B} :
    nxt true cn ck cs 2 cn qk dg = if chk cn qk ≠ 0 then chk cn qk else if cs = 18446744073709551615 then 12 else if dg ≠ auth ck cn (cs + 1) qk then 8 else 0 := by
  have h0 : pchk 2 cn qk = chk cn qk := by unfold pchk; rw [if_neg (by decide)]
  unfold nxt
  rw [h0, if_neg (show ¬ (true = true ∧ cn ≠ cn) from fun h => h.2 rfl), if_neg (show ¬ ((2 : Int) = 1) by decide), if_neg (show ¬ (true = false) by decide)]
theorem or_first4 {a b c d : Prop} : a ∨ (¬ a ∧ b) ∨ (¬ a ∧ ¬ b ∧ c) ∨ (¬ a ∧ ¬ b ∧ ¬ c ∧ d) ∨ (¬ a ∧ ¬ b ∧ ¬ c ∧ ¬ d) := by
  by_cases h1 : a <;> by_cases h2 : b <;> by_cases h3 : c <;> by_cases h4 : d <;> simp_all
theorem or_first5 {a b c d e : Prop} : a ∨ (¬ a ∧ b) ∨ (¬ a ∧ ¬ b ∧ c) ∨ (¬ a ∧ ¬ b ∧ ¬ c ∧ d) ∨ (¬ a ∧ ¬ b ∧ ¬ c ∧ ¬ d ∧ e) ∨ (¬ a ∧ ¬ b ∧ ¬ c ∧ ¬ d ∧ ¬ e) := by
  by_cases h1 : a <;> by_cases h2 : b <;> by_cases h3 : c <;> by_cases h4 : d <;> by_cases h5 : e <;> simp_all
theorem sreq_t (kd : Int) (qn : ByteArray) (qk : Sh.B) (qA : Option Addr) (qc : Nat) (dg : Sh.B) (qA2 : Option Addr) (qc2 : Nat) (w : World) (hd : dg.length = 32) (hqk : SlR w qA (byts qk)) (hqk2 : SlR w qA2 (byts qk)) : Calls Try.prog 14 [.agg (qcell kd qn qk qA qc dg).toArray, .agg (qcell kd qn qk qA2 qc2 dg).toArray].toArray w fun e w' => ∃ _g : Unit, e = .returned (.bool true) ∧ St noB w w' [] ∧ True :=
  (sreq_c kd qn qk qA qc dg kd qn qk qA2 qc2 dg w hd hd hqk hqk2).mono fun e w' ⟨_, he, hs, _⟩ => ⟨(), by rw [he]; simp, hs, trivial⟩
set_option maxRecDepth 100000 in
set_option maxHeartbeats 1000000 in
theorem asks_law (cn : ByteArray) (ck : Sh.B) (cA : Option Addr) (cc : Nat) (cs : UInt64) (qk : Sh.B) (qA : Option Addr) (qc : Nat) (w : World) (hck : SlR w cA (byts ck)) (hcc : ck.length ≤ cc) (hns : cn.size < 4611686018427387904) (hqk : SlR w qA (byts qk)) (hqc : qk.length ≤ qc) (hwk : ∀ w : World, Calls Try.prog 9 [].toArray w fun e w' => ∃ _g : Unit, e = .returned (.bool true) ∧ St noB w w' [] ∧ True) : Calls Try.prog 4 [.agg (bcell cn ck cA cc cs).toArray, .slice qA qk.length qc].toArray w fun e w' => ∃ _g : Unit, e = .returned (.bool true) ∧ St noB w w' [] ∧ True := by
  refine GC.calls Try.func4 rfl rfl (St.begin _) ?_
  refine GC.seq ?_
  refine GC.reg ?_
  refine GL.step (ot_box rfl rfl rfl fun b2 => ?_)
  refine GL.val (rv_assign rfl) rfl ?_
  refine GL.nil ?_
  refine GX.then ?_
  refine GC.seq ?_
  refine GC.seq ?_
  refine GC.cutq (γ := Unit) [2, 1] [0] (fun g Lk => (23, .bool (decide (2000 < ck.length ∨ 2000 < qk.length ∨ 2000 < cn.size))) :: Lk) (fun g Fk => Fk) (fun g => True) rfl rfl ?_ (fun _ _ => ?_)
  · rcases (by omega : (2000 < ck.length) ∨ (ck.length ≤ 2000 ∧ 2000 < qk.length) ∨ (ck.length ≤ 2000 ∧ qk.length ≤ 2000 ∧ 2000 < cn.size) ∨ (ck.length ≤ 2000 ∧ qk.length ≤ 2000 ∧ cn.size ≤ 2000)) with h | h | h | h
    · have hb1 : decide (ck.length ≤ 2000) = false := decide_eq_false (by omega)
      have hb2 : decide (qk.length ≤ 2000) = decide (qk.length ≤ 2000) := rfl
      have hb3 : decide (cn.size ≤ 2000) = decide (cn.size ≤ 2000) := rfl
      rw [show decide (2000 < ck.length ∨ 2000 < qk.length ∨ 2000 < cn.size) = true from decide_eq_true (by omega)]
      refine GC.reg ?_
      refine GL.val (rv_field fo_25_1 rfl rfl) rfl ?_
      refine GL.val (rv_load ag_22 rfl (by first | exact Hd.cell (k := 0) rfl rfl | exact Hd.rowCell (k := 0) rfl (by assumption))) rfl ?_
      refine GL.step (ot_call hb_8 rfl (callOk fun w hh => few2_b _ cA _ cc w hb1) rfl fun _ _ => ?_)
      refine GL.val (rv_not rfl) rfl ?_
      refine GL.val (rv_move rfl) rfl ?_
      first | refine GL.skipG rfl rfl ?_ | refine GL.skipU rfl rfl ?_ | refine GL.valT rfl (rv_move rfl) rfl ?_ | refine GL.valG rfl (fun hb => rv_move (by first | exact evb rfl hb | rfl)) rfl ?_
      first | refine GL.skipG rfl rfl ?_ | refine GL.skipU rfl rfl ?_ | refine GL.stepG rfl (ot_call hb_8 rfl (callOk fun w hh => few2_b _ qA _ qc w hb2) rfl fun _ _ => ?_)
      first | refine GL.skipG rfl rfl ?_ | refine GL.skipU rfl rfl ?_ | refine GL.valT rfl (rv_not rfl) rfl ?_ | refine GL.valG rfl (fun hb => rv_not (by first | exact evb rfl hb | rfl)) rfl ?_
      refine GL.val ((by first | exact rv_orF rfl rfl rfl | exact rv_orT rfl rfl rfl | exact rv_pickOr rfl rfl rfl)) rfl ?_
      refine GL.val (rv_move rfl) rfl ?_
      first | refine GL.skipG rfl rfl ?_ | refine GL.skipU rfl rfl ?_ | refine GL.valT rfl (rv_field fo_25_0 rfl rfl) rfl ?_ | refine GL.valG rfl (fun hb => rv_field fo_25_0 (by first | exact evb rfl hb | rfl) (by first | exact evb rfl hb | rfl)) rfl ?_
      first | refine GL.skipG rfl rfl ?_ | refine GL.skipU rfl rfl ?_ | refine GL.valT rfl (rv_load ag_9 rfl (by first | exact Hd.cell (k := 0) rfl rfl | exact Hd.rowCell (k := 0) rfl (by assumption))) rfl ?_ | refine GL.valG rfl (fun hb => rv_load ag_9 (by first | exact evb rfl hb | rfl) (by first | exact Hd.cell (k := 0) (by first | exact evb rfl hb | rfl) (by first | exact evb rfl hb | rfl) | exact Hd.rowCell (k := 0) (by first | exact evb rfl hb | rfl) (by assumption))) rfl ?_
      first | refine GL.skipG rfl rfl ?_ | refine GL.skipU rfl rfl ?_ | refine GL.valT rfl (rv_lenS Try.underlying9 rfl) rfl ?_ | refine GL.valG rfl (fun hb => rv_lenS Try.underlying9 (by first | exact evb rfl hb | rfl)) rfl ?_
      first | refine GL.skipG rfl rfl ?_ | refine GL.skipU rfl rfl ?_ | refine GL.valT rfl ((by first | exact rv_to (v' := .bool true) (rv_gtr rfl rfl) (by simp only [Value.bool.injEq, decide_eq_true_eq, decide_eq_false_iff_not]; first | assumption | omega) | exact rv_to (v' := .bool false) (rv_gtr rfl rfl) (by simp only [Value.bool.injEq, decide_eq_true_eq, decide_eq_false_iff_not]; first | assumption | omega))) rfl ?_ | refine GL.valG rfl (fun hb => (by first | exact rv_to (v' := .bool true) (rv_gtr (by first | exact evb rfl hb | rfl) (by first | exact evb rfl hb | rfl)) (by simp only [Value.bool.injEq, decide_eq_true_eq, decide_eq_false_iff_not]; first | assumption | omega) | exact rv_to (v' := .bool false) (rv_gtr (by first | exact evb rfl hb | rfl) (by first | exact evb rfl hb | rfl)) (by simp only [Value.bool.injEq, decide_eq_true_eq, decide_eq_false_iff_not]; first | assumption | omega))) rfl ?_
      refine GL.val ((by first | exact rv_orF rfl rfl rfl | exact rv_orT rfl rfl rfl | exact rv_pickOr rfl rfl rfl)) rfl ?_
      refine GL.nil ?_
      exact GX.cutq () trivial (by repeat (first | exact Sub.nil | refine Sub.cons rfl ?_)) (fun w9 h => by
          exact h)
    · have hb1 : decide (ck.length ≤ 2000) = true := decide_eq_true (by omega)
      have hb2 : decide (qk.length ≤ 2000) = false := decide_eq_false (by omega)
      have hb3 : decide (cn.size ≤ 2000) = decide (cn.size ≤ 2000) := rfl
      rw [show decide (2000 < ck.length ∨ 2000 < qk.length ∨ 2000 < cn.size) = true from decide_eq_true (by omega)]
      refine GC.reg ?_
      refine GL.val (rv_field fo_25_1 rfl rfl) rfl ?_
      refine GL.val (rv_load ag_22 rfl (by first | exact Hd.cell (k := 0) rfl rfl | exact Hd.rowCell (k := 0) rfl (by assumption))) rfl ?_
      refine GL.step (ot_call hb_8 rfl (callOk fun w hh => few2_b _ cA _ cc w hb1) rfl fun _ _ => ?_)
      refine GL.val (rv_not rfl) rfl ?_
      refine GL.val (rv_move rfl) rfl ?_
      first | refine GL.skipG rfl rfl ?_ | refine GL.skipU rfl rfl ?_ | refine GL.valT rfl (rv_move rfl) rfl ?_ | refine GL.valG rfl (fun hb => rv_move (by first | exact evb rfl hb | rfl)) rfl ?_
      first | refine GL.skipG rfl rfl ?_ | refine GL.skipU rfl rfl ?_ | refine GL.stepG rfl (ot_call hb_8 rfl (callOk fun w hh => few2_b _ qA _ qc w hb2) rfl fun _ _ => ?_)
      first | refine GL.skipG rfl rfl ?_ | refine GL.skipU rfl rfl ?_ | refine GL.valT rfl (rv_not rfl) rfl ?_ | refine GL.valG rfl (fun hb => rv_not (by first | exact evb rfl hb | rfl)) rfl ?_
      refine GL.val ((by first | exact rv_orF rfl rfl rfl | exact rv_orT rfl rfl rfl | exact rv_pickOr rfl rfl rfl)) rfl ?_
      refine GL.val (rv_move rfl) rfl ?_
      first | refine GL.skipG rfl rfl ?_ | refine GL.skipU rfl rfl ?_ | refine GL.valT rfl (rv_field fo_25_0 rfl rfl) rfl ?_ | refine GL.valG rfl (fun hb => rv_field fo_25_0 (by first | exact evb rfl hb | rfl) (by first | exact evb rfl hb | rfl)) rfl ?_
      first | refine GL.skipG rfl rfl ?_ | refine GL.skipU rfl rfl ?_ | refine GL.valT rfl (rv_load ag_9 rfl (by first | exact Hd.cell (k := 0) rfl rfl | exact Hd.rowCell (k := 0) rfl (by assumption))) rfl ?_ | refine GL.valG rfl (fun hb => rv_load ag_9 (by first | exact evb rfl hb | rfl) (by first | exact Hd.cell (k := 0) (by first | exact evb rfl hb | rfl) (by first | exact evb rfl hb | rfl) | exact Hd.rowCell (k := 0) (by first | exact evb rfl hb | rfl) (by assumption))) rfl ?_
      first | refine GL.skipG rfl rfl ?_ | refine GL.skipU rfl rfl ?_ | refine GL.valT rfl (rv_lenS Try.underlying9 rfl) rfl ?_ | refine GL.valG rfl (fun hb => rv_lenS Try.underlying9 (by first | exact evb rfl hb | rfl)) rfl ?_
      first | refine GL.skipG rfl rfl ?_ | refine GL.skipU rfl rfl ?_ | refine GL.valT rfl ((by first | exact rv_to (v' := .bool true) (rv_gtr rfl rfl) (by simp only [Value.bool.injEq, decide_eq_true_eq, decide_eq_false_iff_not]; first | assumption | omega) | exact rv_to (v' := .bool false) (rv_gtr rfl rfl) (by simp only [Value.bool.injEq, decide_eq_true_eq, decide_eq_false_iff_not]; first | assumption | omega))) rfl ?_ | refine GL.valG rfl (fun hb => (by first | exact rv_to (v' := .bool true) (rv_gtr (by first | exact evb rfl hb | rfl) (by first | exact evb rfl hb | rfl)) (by simp only [Value.bool.injEq, decide_eq_true_eq, decide_eq_false_iff_not]; first | assumption | omega) | exact rv_to (v' := .bool false) (rv_gtr (by first | exact evb rfl hb | rfl) (by first | exact evb rfl hb | rfl)) (by simp only [Value.bool.injEq, decide_eq_true_eq, decide_eq_false_iff_not]; first | assumption | omega))) rfl ?_
      refine GL.val ((by first | exact rv_orF rfl rfl rfl | exact rv_orT rfl rfl rfl | exact rv_pickOr rfl rfl rfl)) rfl ?_
      refine GL.nil ?_
      exact GX.cutq () trivial (by repeat (first | exact Sub.nil | refine Sub.cons rfl ?_)) (fun w9 h => by
          exact h)
    · have hb1 : decide (ck.length ≤ 2000) = true := decide_eq_true (by omega)
      have hb2 : decide (qk.length ≤ 2000) = true := decide_eq_true (by omega)
      have hb3 : decide (cn.size ≤ 2000) = false := decide_eq_false (by omega)
      rw [show decide (2000 < ck.length ∨ 2000 < qk.length ∨ 2000 < cn.size) = true from decide_eq_true (by omega)]
      refine GC.reg ?_
      refine GL.val (rv_field fo_25_1 rfl rfl) rfl ?_
      refine GL.val (rv_load ag_22 rfl (by first | exact Hd.cell (k := 0) rfl rfl | exact Hd.rowCell (k := 0) rfl (by assumption))) rfl ?_
      refine GL.step (ot_call hb_8 rfl (callOk fun w hh => few2_b _ cA _ cc w hb1) rfl fun _ _ => ?_)
      refine GL.val (rv_not rfl) rfl ?_
      refine GL.val (rv_move rfl) rfl ?_
      first | refine GL.skipG rfl rfl ?_ | refine GL.skipU rfl rfl ?_ | refine GL.valT rfl (rv_move rfl) rfl ?_ | refine GL.valG rfl (fun hb => rv_move (by first | exact evb rfl hb | rfl)) rfl ?_
      first | refine GL.skipG rfl rfl ?_ | refine GL.skipU rfl rfl ?_ | refine GL.stepG rfl (ot_call hb_8 rfl (callOk fun w hh => few2_b _ qA _ qc w hb2) rfl fun _ _ => ?_)
      first | refine GL.skipG rfl rfl ?_ | refine GL.skipU rfl rfl ?_ | refine GL.valT rfl (rv_not rfl) rfl ?_ | refine GL.valG rfl (fun hb => rv_not (by first | exact evb rfl hb | rfl)) rfl ?_
      refine GL.val ((by first | exact rv_orF rfl rfl rfl | exact rv_orT rfl rfl rfl | exact rv_pickOr rfl rfl rfl)) rfl ?_
      refine GL.val (rv_move rfl) rfl ?_
      first | refine GL.skipG rfl rfl ?_ | refine GL.skipU rfl rfl ?_ | refine GL.valT rfl (rv_field fo_25_0 rfl rfl) rfl ?_ | refine GL.valG rfl (fun hb => rv_field fo_25_0 (by first | exact evb rfl hb | rfl) (by first | exact evb rfl hb | rfl)) rfl ?_
      first | refine GL.skipG rfl rfl ?_ | refine GL.skipU rfl rfl ?_ | refine GL.valT rfl (rv_load ag_9 rfl (by first | exact Hd.cell (k := 0) rfl rfl | exact Hd.rowCell (k := 0) rfl (by assumption))) rfl ?_ | refine GL.valG rfl (fun hb => rv_load ag_9 (by first | exact evb rfl hb | rfl) (by first | exact Hd.cell (k := 0) (by first | exact evb rfl hb | rfl) (by first | exact evb rfl hb | rfl) | exact Hd.rowCell (k := 0) (by first | exact evb rfl hb | rfl) (by assumption))) rfl ?_
      first | refine GL.skipG rfl rfl ?_ | refine GL.skipU rfl rfl ?_ | refine GL.valT rfl (rv_lenS Try.underlying9 rfl) rfl ?_ | refine GL.valG rfl (fun hb => rv_lenS Try.underlying9 (by first | exact evb rfl hb | rfl)) rfl ?_
      first | refine GL.skipG rfl rfl ?_ | refine GL.skipU rfl rfl ?_ | refine GL.valT rfl ((by first | exact rv_to (v' := .bool true) (rv_gtr rfl rfl) (by simp only [Value.bool.injEq, decide_eq_true_eq, decide_eq_false_iff_not]; first | assumption | omega) | exact rv_to (v' := .bool false) (rv_gtr rfl rfl) (by simp only [Value.bool.injEq, decide_eq_true_eq, decide_eq_false_iff_not]; first | assumption | omega))) rfl ?_ | refine GL.valG rfl (fun hb => (by first | exact rv_to (v' := .bool true) (rv_gtr (by first | exact evb rfl hb | rfl) (by first | exact evb rfl hb | rfl)) (by simp only [Value.bool.injEq, decide_eq_true_eq, decide_eq_false_iff_not]; first | assumption | omega) | exact rv_to (v' := .bool false) (rv_gtr (by first | exact evb rfl hb | rfl) (by first | exact evb rfl hb | rfl)) (by simp only [Value.bool.injEq, decide_eq_true_eq, decide_eq_false_iff_not]; first | assumption | omega))) rfl ?_
      refine GL.val ((by first | exact rv_orF rfl rfl rfl | exact rv_orT rfl rfl rfl | exact rv_pickOr rfl rfl rfl)) rfl ?_
      refine GL.nil ?_
      exact GX.cutq () trivial (by repeat (first | exact Sub.nil | refine Sub.cons rfl ?_)) (fun w9 h => by
          exact h)
    · have hb1 : decide (ck.length ≤ 2000) = true := decide_eq_true (by omega)
      have hb2 : decide (qk.length ≤ 2000) = true := decide_eq_true (by omega)
      have hb3 : decide (cn.size ≤ 2000) = true := decide_eq_true (by omega)
      rw [show decide (2000 < ck.length ∨ 2000 < qk.length ∨ 2000 < cn.size) = false from decide_eq_false (by omega)]
      refine GC.reg ?_
      refine GL.val (rv_field fo_25_1 rfl rfl) rfl ?_
      refine GL.val (rv_load ag_22 rfl (by first | exact Hd.cell (k := 0) rfl rfl | exact Hd.rowCell (k := 0) rfl (by assumption))) rfl ?_
      refine GL.step (ot_call hb_8 rfl (callOk fun w hh => few2_b _ cA _ cc w hb1) rfl fun _ _ => ?_)
      refine GL.val (rv_not rfl) rfl ?_
      refine GL.val (rv_move rfl) rfl ?_
      first | refine GL.skipG rfl rfl ?_ | refine GL.skipU rfl rfl ?_ | refine GL.valT rfl (rv_move rfl) rfl ?_ | refine GL.valG rfl (fun hb => rv_move (by first | exact evb rfl hb | rfl)) rfl ?_
      first | refine GL.skipG rfl rfl ?_ | refine GL.skipU rfl rfl ?_ | refine GL.stepG rfl (ot_call hb_8 rfl (callOk fun w hh => few2_b _ qA _ qc w hb2) rfl fun _ _ => ?_)
      first | refine GL.skipG rfl rfl ?_ | refine GL.skipU rfl rfl ?_ | refine GL.valT rfl (rv_not rfl) rfl ?_ | refine GL.valG rfl (fun hb => rv_not (by first | exact evb rfl hb | rfl)) rfl ?_
      refine GL.val ((by first | exact rv_orF rfl rfl rfl | exact rv_orT rfl rfl rfl | exact rv_pickOr rfl rfl rfl)) rfl ?_
      refine GL.val (rv_move rfl) rfl ?_
      first | refine GL.skipG rfl rfl ?_ | refine GL.skipU rfl rfl ?_ | refine GL.valT rfl (rv_field fo_25_0 rfl rfl) rfl ?_ | refine GL.valG rfl (fun hb => rv_field fo_25_0 (by first | exact evb rfl hb | rfl) (by first | exact evb rfl hb | rfl)) rfl ?_
      first | refine GL.skipG rfl rfl ?_ | refine GL.skipU rfl rfl ?_ | refine GL.valT rfl (rv_load ag_9 rfl (by first | exact Hd.cell (k := 0) rfl rfl | exact Hd.rowCell (k := 0) rfl (by assumption))) rfl ?_ | refine GL.valG rfl (fun hb => rv_load ag_9 (by first | exact evb rfl hb | rfl) (by first | exact Hd.cell (k := 0) (by first | exact evb rfl hb | rfl) (by first | exact evb rfl hb | rfl) | exact Hd.rowCell (k := 0) (by first | exact evb rfl hb | rfl) (by assumption))) rfl ?_
      first | refine GL.skipG rfl rfl ?_ | refine GL.skipU rfl rfl ?_ | refine GL.valT rfl (rv_lenS Try.underlying9 rfl) rfl ?_ | refine GL.valG rfl (fun hb => rv_lenS Try.underlying9 (by first | exact evb rfl hb | rfl)) rfl ?_
      first | refine GL.skipG rfl rfl ?_ | refine GL.skipU rfl rfl ?_ | refine GL.valT rfl ((by first | exact rv_to (v' := .bool true) (rv_gtr rfl rfl) (by simp only [Value.bool.injEq, decide_eq_true_eq, decide_eq_false_iff_not]; first | assumption | omega) | exact rv_to (v' := .bool false) (rv_gtr rfl rfl) (by simp only [Value.bool.injEq, decide_eq_true_eq, decide_eq_false_iff_not]; first | assumption | omega))) rfl ?_ | refine GL.valG rfl (fun hb => (by first | exact rv_to (v' := .bool true) (rv_gtr (by first | exact evb rfl hb | rfl) (by first | exact evb rfl hb | rfl)) (by simp only [Value.bool.injEq, decide_eq_true_eq, decide_eq_false_iff_not]; first | assumption | omega) | exact rv_to (v' := .bool false) (rv_gtr (by first | exact evb rfl hb | rfl) (by first | exact evb rfl hb | rfl)) (by simp only [Value.bool.injEq, decide_eq_true_eq, decide_eq_false_iff_not]; first | assumption | omega))) rfl ?_
      refine GL.val ((by first | exact rv_orF rfl rfl rfl | exact rv_orT rfl rfl rfl | exact rv_pickOr rfl rfl rfl)) rfl ?_
      refine GL.nil ?_
      exact GX.cutq () trivial (by repeat (first | exact Sub.nil | refine Sub.cons rfl ?_)) (fun w9 h => by
          exact h)
  refine GX.then ?_
  first | refine GC.condP rfl (fun c23 => ?_) (fun c23 => ?_) | refine GC.cond rfl (fun c23 => ?_) (fun c23 => ?_)
  · skip
    refine GC.seq ?_
    refine GC.reg ?_
    refine GL.step (ot_call hb_9 rfl (callOk fun w hh => hwk w) rfl fun _ _ => ?_)
    refine GL.val (rv_assign rfl) rfl ?_
    refine GL.nil ?_
    refine GX.then ?_
    refine GC.ret ?_
    refine GX.then_ret ?_
    refine GX.ret1 rfl (RR.tmp rfl) ?_
    exact fun w9 h => ⟨(), rfl, by
        have h := h.sel [] rfl rfl
        exact h, trivial⟩
  · have hf : ¬ (2000 < ck.length ∨ 2000 < qk.length ∨ 2000 < cn.size) := by simpa using c23
    refine GC.skip ?_
    refine GX.then ?_
    refine GC.seq ?_
    refine GC.reg ?_
    refine GL.val (rv_loadAL ag_25 rfl (by first | exact Hd.cellsAll (k := 0) rfl | exact Hd.cells (k := 0) rfl rfl) (by exact sz_25) (by first | (first | exact qc_len hal) | rfl)) rfl ?_
    refine GL.val (rv_move rfl) rfl ?_
    refine GL.step (ot_call hb_13 rfl (callOk fun w hh => ask_c cn ck cA cc cs qk qA qc w (hh.rd0n hck) hcc (by omega) (by omega) (hh.rd0n hqk) hqc (by omega)) rfl fun g27 h27 => ?_)
    have hal := auth_len ck cn (cs + 1) qk
    generalize hau : auth ck cn (cs + 1) qk = au at hal ⊢
    refine GL.step (ot_alloc (zs := [.int .i64 0, .string ByteArray.empty, .slice none 0 0, .int .u8 0, .int .u8 0, .int .u8 0, .int .u8 0, .int .u8 0, .int .u8 0, .int .u8 0, .int .u8 0, .int .u8 0, .int .u8 0, .int .u8 0, .int .u8 0, .int .u8 0, .int .u8 0, .int .u8 0, .int .u8 0, .int .u8 0, .int .u8 0, .int .u8 0, .int .u8 0, .int .u8 0, .int .u8 0, .int .u8 0, .int .u8 0, .int .u8 0, .int .u8 0, .int .u8 0, .int .u8 0, .int .u8 0, .int .u8 0, .int .u8 0, .int .u8 0]) zb_29 rfl rfl fun b5 => ?_)
    refine GL.step (ot_storeA (k := 0) rfl rfl rfl rfl (by exact sz_29) (qc_len hal) rfl qc_one ?_)
    refine GL.nil ?_
    refine GX.then ?_
    refine GC.seq ?_
    refine GC.seq ?_
    refine GC.draw 6 [0, 1, 2] mo_ ?_
    refine GD.pure (i := 2) rfl (fun _ _ => rv_move rfl) (by kernel_rfl) (by repeat (first | exact noPanicPut_body | exact noPanicPut_cut | exact noPanicPut_cutE | refine noPanicPut_then ?_ | refine noPanicPut_blk ?_)) ?_
    refine GD.read (i := 0) rfl (rv_loadAL ag_29 rfl (by first | exact Hd.cellsAll (k := 0) rfl | exact Hd.cells (k := 0) rfl rfl) (by exact sz_29) (by first | (first | exact qc_len hal) | rfl)) (by kernel_rfl) (by repeat (first | exact noPanicPut_body | exact noPanicPut_cut | exact noPanicPut_cutE | refine noPanicPut_then ?_ | refine noPanicPut_blk ?_)) ?_
    refine GD.step (i := 1) (by kernel_rfl) rfl (ot_val (rv_loadAL ag_25 rfl (by first | exact Hd.cellsAll (k := 2) rfl | exact Hd.cells (k := 2) rfl rfl) (by exact sz_25) (by first | (first | exact qc_len hal) | rfl)) rfl ⟨.inr fun _ h => h.pk [0, 1, 2], ?_⟩)
    refine GD.step (i := 3) (by kernel_rfl) rfl (ot_call hb_15 rfl (callOk fun w hh => rask_c cn ck cA cc cs qk qA qc w (hh.rd0n hck) hcc (by omega) (by omega) (hh.rd0n hqk) hqc (by omega)) rfl fun _ _ => ⟨.inr fun _ h => h.pk [0, 1, 2], ?_⟩)
    rw [hau]
    refine GD.step (i := 4) (by kernel_rfl) rfl (ot_call hb_14 rfl (callOk fun w hh => sreq_t _ _ _ _ _ _ _ _ w hal (hh.ro (k := 1) rfl) (hh.rd0n hqk)) rfl fun _ _ => ⟨.inr fun _ h => h.pk [0, 1, 2], ?_⟩)
    refine GD.pure (i := 5) rfl (fun _ _ => rv_not rfl) (by kernel_rfl) (by repeat (first | exact noPanicPut_body | exact noPanicPut_cut | exact noPanicPut_cutE | refine noPanicPut_then ?_ | refine noPanicPut_blk ?_)) ?_
    refine GD.done (by kernel_rfl) ?_
    refine GX.then ?_
    first | refine GC.condP rfl (fun c33 => ?_) (fun c33 => ?_) | refine GC.cond rfl (fun c33 => ?_) (fun c33 => ?_)
    · cases c33
    · skip
      refine GC.skip ?_
      refine GX.then ?_
      refine GC.seq ?_
      refine GC.reg ?_
      refine GL.val (rv_loadAL ag_25 rfl (by first | exact Hd.cellsAll (k := 2) rfl | exact Hd.cells (k := 2) rfl rfl) (by exact sz_25) (by first | (first | exact qc_len hal) | rfl)) rfl ?_
      refine GL.val (rv_loadAL ag_29 rfl (by first | exact Hd.cellsAll (k := 0) rfl | exact Hd.cells (k := 0) rfl rfl) (by exact sz_29) (by first | (first | exact qc_len hal) | rfl)) rfl ?_
      refine GL.step (ot_call hb_10 rfl (callOk fun w hh => next_c true cn ck cA cc cs 2 cn qk g27.1 g27.2 au w (hh.rd0n hck) hcc (by omega) hal (by omega) (hh.ro (k := 1) rfl) h27 (by omega)) rfl fun g37 h37 => ?_)
      refine GL.val (rv_move rfl) rfl ?_
      refine GL.val (rv_extract rfl rfl) rfl ?_
      refine GL.val (rv_extract rfl rfl) rfl ?_
      refine GL.step (ot_alloc (zs := [.string ByteArray.empty, .slice none 0 0, .int .u64 0]) zb_25 rfl rfl fun b6 => ?_)
      refine GL.step (ot_store (k := 0) rfl rfl rfl rfl sz_25 rfl rfl (by first | ((simp only [repl, List.set_cons_zero, List.set_cons_succ]) <;> rfl) | rfl) ?_)
      refine GL.val (rv_assign rfl) rfl ?_
      refine GL.nil ?_
      refine GX.then ?_
      refine GC.seq ?_
      refine GC.seq ?_
      refine GC.reg ?_
      refine GL.val (rv_field fo_25_0 rfl rfl) rfl ?_
      refine GL.val (rv_load ag_9 rfl (by first | exact Hd.cell (k := 4) rfl rfl | exact Hd.rowCell (k := 4) rfl (by assumption))) rfl ?_
      refine GL.val (rv_move rfl) rfl ?_
      refine GL.step (ot_call hb_16 rfl (callOk fun w hh => rcheck_c cn _ _ _ qk w hns rfl) rfl fun _ _ => ?_)
      refine GL.val (rv_assign rfl) rfl ?_
      refine GL.nil ?_
      refine GX.then ?_
      refine GC.seq ?_
      refine GC.reg ?_
      refine GL.val (rv_move rfl) rfl ?_
      refine GL.val (rv_neI rfl rfl) rfl ?_
      refine GL.nil ?_
      refine GX.then ?_
      first | refine GC.condP rfl (fun c45 => ?_) (fun c45 => ?_) | refine GC.cond rfl (fun c45 => ?_) (fun c45 => ?_)
      · have hk : chk cn qk ≠ 0 := by simpa using c45
        have hz : nxt true cn ck cs 2 cn qk au = chk cn qk := by rw [nxt_ask, if_pos hk]
        rw [hz]
        refine GC.seq ?_
        refine GC.reg ?_
        refine GL.val (rv_move rfl) rfl ?_
        refine GL.val (rv_move rfl) rfl ?_
        refine GL.val (rv_to (v' := .bool true) (rv_eqI rfl rfl) (by simp)) rfl ?_
        refine GL.val (rv_move rfl) rfl ?_
        first | refine GL.skipG rfl rfl ?_ | refine GL.skipU rfl rfl ?_ | refine GL.stepG rfl (ot_call hb_9 rfl (callOk fun w hh => hwk w) rfl fun _ _ => ?_)
        refine GL.val ((by first | exact rv_andT rfl rfl rfl | exact rv_andF rfl rfl rfl | exact rv_pickAnd rfl rfl rfl)) rfl ?_
        refine GL.val (rv_assign rfl) rfl ?_
        refine GL.nil ?_
        refine GX.then ?_
        refine GC.ret ?_
        refine GX.then_ret ?_
        refine GX.ret1 rfl (RR.tmp rfl) ?_
        exact fun w9 h => ⟨(), rfl, by
            have h := h.sel [] rfl rfl
            exact h, trivial⟩
      · have hk : ¬ chk cn qk ≠ 0 := by simpa using c45
        refine GC.skip ?_
        refine GX.then ?_
        refine GC.seq ?_
        refine GC.seq ?_
        refine GC.reg ?_
        refine GL.val (rv_field fo_25_2 rfl rfl) rfl ?_
        refine GL.val (rv_load ag_23 rfl (by first | exact Hd.cell (k := 4) rfl rfl | exact Hd.rowCell (k := 4) rfl (by assumption))) rfl ?_
        refine GL.val (rv_eq64 (b := 18446744073709551615) rfl rfl) rfl ?_
        refine GL.nil ?_
        refine GX.then ?_
        first | refine GC.condP rfl (fun c54 => ?_) (fun c54 => ?_) | refine GC.cond rfl (fun c54 => ?_) (fun c54 => ?_)
        · have hm : cs = 18446744073709551615 := by simpa using c54
          have hz : nxt true cn ck cs 2 cn qk au = 12 := by rw [nxt_ask, if_neg hk, if_pos hm]
          rw [hz]
          refine GC.seq ?_
          refine GC.reg ?_
          refine GL.val (rv_move rfl) rfl ?_
          refine GL.val (rv_to (v' := .bool true) (rv_eqI rfl rfl) (by simp)) rfl ?_
          refine GL.val (rv_move rfl) rfl ?_
          first | refine GL.skipG rfl rfl ?_ | refine GL.skipU rfl rfl ?_ | refine GL.stepG rfl (ot_call hb_9 rfl (callOk fun w hh => hwk w) rfl fun _ _ => ?_)
          refine GL.val ((by first | exact rv_andT rfl rfl rfl | exact rv_andF rfl rfl rfl | exact rv_pickAnd rfl rfl rfl)) rfl ?_
          refine GL.val (rv_assign rfl) rfl ?_
          refine GL.nil ?_
          refine GX.then ?_
          refine GC.ret ?_
          refine GX.then_ret ?_
          refine GX.ret1 rfl (RR.tmp rfl) ?_
          exact fun w9 h => ⟨(), rfl, by
              have h := h.sel [] rfl rfl
              exact h, trivial⟩
        · have hm : ¬ cs = 18446744073709551615 := by simpa using c54
          have hz : nxt true cn ck cs 2 cn qk au = 0 := by rw [nxt_ask, if_neg hk, if_neg hm, hau, if_neg (fun h => h rfl)]
          rw [hz]
          simp only [rn_0, rk_0, rs_0]
          rw [show nser 2 cs = cs + 1 from if_neg (by decide)]
          rw [hz, rk_0] at h37
          refine GC.skip ?_
          refine GX.then ?_
          refine GC.seq ?_
          refine GC.reg ?_
          refine GL.val (rv_move rfl) rfl ?_
          refine GL.val (rv_to (v' := .bool true) (rv_eqI rfl rfl) (by simp)) rfl ?_
          refine GL.val (rv_move rfl) rfl ?_
          first | refine GL.skipG rfl rfl ?_ | refine GL.skipU rfl rfl ?_ | refine GL.valT rfl (rv_field fo_25_0 rfl rfl) rfl ?_ | refine GL.valG rfl (fun hb => rv_field fo_25_0 (by first | exact evb rfl hb | rfl) (by first | exact evb rfl hb | rfl)) rfl ?_
          first | refine GL.skipG rfl rfl ?_ | refine GL.skipU rfl rfl ?_ | refine GL.valT rfl (rv_load ag_9 rfl (by first | exact Hd.cell (k := 0) rfl rfl | exact Hd.rowCell (k := 0) rfl (by assumption))) rfl ?_ | refine GL.valG rfl (fun hb => rv_load ag_9 (by first | exact evb rfl hb | rfl) (by first | exact Hd.cell (k := 0) (by first | exact evb rfl hb | rfl) (by first | exact evb rfl hb | rfl) | exact Hd.rowCell (k := 0) (by first | exact evb rfl hb | rfl) (by assumption))) rfl ?_
          first | refine GL.skipG rfl rfl ?_ | refine GL.skipU rfl rfl ?_ | refine GL.valT rfl (rv_field fo_25_0 rfl rfl) rfl ?_ | refine GL.valG rfl (fun hb => rv_field fo_25_0 (by first | exact evb rfl hb | rfl) (by first | exact evb rfl hb | rfl)) rfl ?_
          first | refine GL.skipG rfl rfl ?_ | refine GL.skipU rfl rfl ?_ | refine GL.valT rfl (rv_load ag_9 rfl (by first | exact Hd.cell (k := 4) rfl rfl | exact Hd.rowCell (k := 4) rfl (by assumption))) rfl ?_ | refine GL.valG rfl (fun hb => rv_load ag_9 (by first | exact evb rfl hb | rfl) (by first | exact Hd.cell (k := 4) (by first | exact evb rfl hb | rfl) (by first | exact evb rfl hb | rfl) | exact Hd.rowCell (k := 4) (by first | exact evb rfl hb | rfl) (by assumption))) rfl ?_
          first | refine GL.skipG rfl rfl ?_ | refine GL.skipU rfl rfl ?_ | refine GL.valT rfl (rv_to (v' := .bool true) (rv_eqS rfl rfl) (by simp)) rfl ?_ | refine GL.valG rfl (fun hb => rv_to (v' := .bool true) (rv_eqS (by first | exact evb rfl hb | rfl) (by first | exact evb rfl hb | rfl)) (by simp)) rfl ?_
          refine GL.val ((by first | exact rv_andT rfl rfl rfl | exact rv_andF rfl rfl rfl | exact rv_pickAnd rfl rfl rfl)) rfl ?_
          refine GL.val (rv_move rfl) rfl ?_
          first | refine GL.skipG rfl rfl ?_ | refine GL.skipU rfl rfl ?_ | refine GL.valT rfl (rv_field fo_25_1 rfl rfl) rfl ?_ | refine GL.valG rfl (fun hb => rv_field fo_25_1 (by first | exact evb rfl hb | rfl) (by first | exact evb rfl hb | rfl)) rfl ?_
          first | refine GL.skipG rfl rfl ?_ | refine GL.skipU rfl rfl ?_ | refine GL.valT rfl (rv_load ag_22 rfl (by first | exact Hd.cell (k := 0) rfl rfl | exact Hd.rowCell (k := 0) rfl (by assumption))) rfl ?_ | refine GL.valG rfl (fun hb => rv_load ag_22 (by first | exact evb rfl hb | rfl) (by first | exact Hd.cell (k := 0) (by first | exact evb rfl hb | rfl) (by first | exact evb rfl hb | rfl) | exact Hd.rowCell (k := 0) (by first | exact evb rfl hb | rfl) (by assumption))) rfl ?_
          first | refine GL.skipG rfl rfl ?_ | refine GL.skipU rfl rfl ?_ | refine GL.valT rfl (rv_convBS (b := qk) Try.underlying22 Try.underlying5 Try.underlying9 rfl (fun w h => h.ro (k := 1) rfl) rfl) rfl ?_ | refine GL.valG rfl (fun hb => rv_convBS (b := qk) Try.underlying22 Try.underlying5 Try.underlying9 (by first | exact evb rfl hb | rfl) (fun w h => h.ro (k := 1) (by first | exact evb rfl hb | rfl)) (by first | exact evb rfl hb | rfl)) rfl ?_
          first | refine GL.skipG rfl rfl ?_ | refine GL.skipU rfl rfl ?_ | refine GL.valT rfl (rv_move rfl) rfl ?_ | refine GL.valG rfl (fun hb => rv_move (by first | exact evb rfl hb | rfl)) rfl ?_
          first | refine GL.skipG rfl rfl ?_ | refine GL.skipU rfl rfl ?_ | refine GL.valT rfl (rv_convBS Try.underlying22 Try.underlying5 Try.underlying9 rfl (fun w h => h.rd0n hqk) rfl) rfl ?_ | refine GL.valG rfl (fun hb => rv_convBS Try.underlying22 Try.underlying5 Try.underlying9 (by first | exact evb rfl hb | rfl) (fun w h => h.rd0n hqk) (by first | exact evb rfl hb | rfl)) rfl ?_
          first | refine GL.skipG rfl rfl ?_ | refine GL.skipU rfl rfl ?_ | refine GL.valT rfl (rv_to (v' := .bool true) (rv_eqS rfl rfl) (by simp)) rfl ?_ | refine GL.valG rfl (fun hb => rv_to (v' := .bool true) (rv_eqS (by first | exact evb rfl hb | rfl) (by first | exact evb rfl hb | rfl)) (by simp)) rfl ?_
          refine GL.val ((by first | exact rv_andT rfl rfl rfl | exact rv_andF rfl rfl rfl | exact rv_pickAnd rfl rfl rfl)) rfl ?_
          refine GL.val (rv_move rfl) rfl ?_
          first | refine GL.skipG rfl rfl ?_ | refine GL.skipU rfl rfl ?_ | refine GL.valT rfl (rv_field fo_25_2 rfl rfl) rfl ?_ | refine GL.valG rfl (fun hb => rv_field fo_25_2 (by first | exact evb rfl hb | rfl) (by first | exact evb rfl hb | rfl)) rfl ?_
          first | refine GL.skipG rfl rfl ?_ | refine GL.skipU rfl rfl ?_ | refine GL.valT rfl (rv_load ag_23 rfl (by first | exact Hd.cell (k := 0) rfl rfl | exact Hd.rowCell (k := 0) rfl (by assumption))) rfl ?_ | refine GL.valG rfl (fun hb => rv_load ag_23 (by first | exact evb rfl hb | rfl) (by first | exact Hd.cell (k := 0) (by first | exact evb rfl hb | rfl) (by first | exact evb rfl hb | rfl) | exact Hd.rowCell (k := 0) (by first | exact evb rfl hb | rfl) (by assumption))) rfl ?_
          first | refine GL.skipG rfl rfl ?_ | refine GL.skipU rfl rfl ?_ | refine GL.valT rfl (rv_field fo_25_2 rfl rfl) rfl ?_ | refine GL.valG rfl (fun hb => rv_field fo_25_2 (by first | exact evb rfl hb | rfl) (by first | exact evb rfl hb | rfl)) rfl ?_
          first | refine GL.skipG rfl rfl ?_ | refine GL.skipU rfl rfl ?_ | refine GL.valT rfl (rv_load ag_23 rfl (by first | exact Hd.cell (k := 4) rfl rfl | exact Hd.rowCell (k := 4) rfl (by assumption))) rfl ?_ | refine GL.valG rfl (fun hb => rv_load ag_23 (by first | exact evb rfl hb | rfl) (by first | exact Hd.cell (k := 4) (by first | exact evb rfl hb | rfl) (by first | exact evb rfl hb | rfl) | exact Hd.rowCell (k := 4) (by first | exact evb rfl hb | rfl) (by assumption))) rfl ?_
          first | refine GL.skipG rfl rfl ?_ | refine GL.skipU rfl rfl ?_ | refine GL.valT rfl (rv_add64 (b := 1) rfl rfl) rfl ?_ | refine GL.valG rfl (fun hb => rv_add64 (b := 1) (by first | exact evb rfl hb | rfl) (by first | exact evb rfl hb | rfl)) rfl ?_
          first | refine GL.skipG rfl rfl ?_ | refine GL.skipU rfl rfl ?_ | refine GL.valT rfl (rv_to (v' := .bool true) (rv_eq64 rfl rfl) (by simp)) rfl ?_ | refine GL.valG rfl (fun hb => rv_to (v' := .bool true) (rv_eq64 (by first | exact evb rfl hb | rfl) (by first | exact evb rfl hb | rfl)) (by simp)) rfl ?_
          refine GL.val ((by first | exact rv_andT rfl rfl rfl | exact rv_andF rfl rfl rfl | exact rv_pickAnd rfl rfl rfl)) rfl ?_
          refine GL.val (rv_move rfl) rfl ?_
          first | refine GL.skipG rfl rfl ?_ | refine GL.skipU rfl rfl ?_ | refine GL.stepG rfl (ot_call hb_9 rfl (callOk fun w hh => hwk w) rfl fun _ _ => ?_)
          refine GL.val ((by first | exact rv_andT rfl rfl rfl | exact rv_andF rfl rfl rfl | exact rv_pickAnd rfl rfl rfl)) rfl ?_
          refine GL.val (rv_assign rfl) rfl ?_
          refine GL.nil ?_
          refine GX.then ?_
          refine GC.ret ?_
          refine GX.ret1 rfl (RR.tmp rfl) ?_
          exact fun w9 h => ⟨(), rfl, by
              have h := h.sel [] rfl rfl
              exact h, trivial⟩
set_option maxRecDepth 100000 in
set_option maxHeartbeats 1000000 in
theorem others_law (cn : ByteArray) (ck : Sh.B) (cA : Option Addr) (cc : Nat) (cs : UInt64) (wk : Sh.B) (wA : Option Addr) (wc : Nat) (qk : Sh.B) (qA : Option Addr) (qc : Nat) (w : World) (hck : SlR w cA (byts ck)) (hcc : ck.length ≤ cc) (hns : cn.size < 4611686018427387904) (hwr : SlR w wA (byts wk)) (hwc : wk.length ≤ wc) (hqk : SlR w qA (byts qk)) (hqc : qk.length ≤ qc) (hwk : ∀ w : World, Calls Try.prog 9 [].toArray w fun e w' => ∃ _g : Unit, e = .returned (.bool true) ∧ St noB w w' [] ∧ True) : Calls Try.prog 5 [.agg (bcell cn ck cA cc cs).toArray, .slice wA wk.length wc, .slice qA qk.length qc].toArray w fun e w' => ∃ _g : Unit, e = .returned (.bool true) ∧ St noB w w' [] ∧ True := by
  refine GC.calls Try.func5 rfl rfl (St.begin _) ?_
  refine GC.seq ?_
  refine GC.reg ?_
  refine GL.step (ot_box rfl rfl rfl fun b3 => ?_)
  refine GL.val (rv_assign rfl) rfl ?_
  refine GL.nil ?_
  refine GX.then ?_
  refine GC.seq ?_
  refine GC.seq ?_
  refine GC.cutq (γ := Unit) [3, 2, 1] [0] (fun g Lk => (36, .bool (decide ((2000 < ck.length) ∨ (2000 < wk.length) ∨ (2000 < qk.length) ∨ (chk cn qk ≠ 0) ∨ (cs = 18446744073709551615)))) :: Lk) (fun g Fk => Fk) (fun g => True) rfl rfl ?_ (fun _ _ => ?_)
  · rcases (or_first5 : (2000 < ck.length) ∨ (¬ (2000 < ck.length) ∧ (2000 < wk.length)) ∨ (¬ (2000 < ck.length) ∧ ¬ (2000 < wk.length) ∧ (2000 < qk.length)) ∨ (¬ (2000 < ck.length) ∧ ¬ (2000 < wk.length) ∧ ¬ (2000 < qk.length) ∧ (chk cn qk ≠ 0)) ∨ (¬ (2000 < ck.length) ∧ ¬ (2000 < wk.length) ∧ ¬ (2000 < qk.length) ∧ ¬ (chk cn qk ≠ 0) ∧ (cs = 18446744073709551615)) ∨ (¬ (2000 < ck.length) ∧ ¬ (2000 < wk.length) ∧ ¬ (2000 < qk.length) ∧ ¬ (chk cn qk ≠ 0) ∧ ¬ (cs = 18446744073709551615))) with p1 | ⟨p1, p2⟩ | ⟨p1, p2, p3⟩ | ⟨p1, p2, p3, p4⟩ | ⟨p1, p2, p3, p4, p5⟩ | ⟨p1, p2, p3, p4, p5⟩
    · have hb1 : decide (ck.length ≤ 2000) = false := decide_eq_false (by omega)
      have hb2 : decide (wk.length ≤ 2000) = decide (wk.length ≤ 2000) := rfl
      have hb3 : decide (qk.length ≤ 2000) = decide (qk.length ≤ 2000) := rfl
      rw [show decide ((2000 < ck.length) ∨ (2000 < wk.length) ∨ (2000 < qk.length) ∨ (chk cn qk ≠ 0) ∨ (cs = 18446744073709551615)) = true from decide_eq_true (.inl p1)]
      refine GC.reg ?_
      refine GL.val (rv_field fo_25_1 rfl rfl) rfl ?_
      refine GL.val (rv_load ag_22 rfl (by first | exact Hd.cell (k := 0) rfl rfl | exact Hd.rowCell (k := 0) rfl (by assumption))) rfl ?_
      refine GL.step (ot_call hb_8 rfl (callOk fun w hh => few2_b _ cA _ cc w hb1) rfl fun _ _ => ?_)
      refine GL.val (rv_not rfl) rfl ?_
      refine GL.val (rv_move rfl) rfl ?_
      first | refine GL.skipG rfl rfl ?_ | refine GL.skipU rfl rfl ?_ | refine GL.valT rfl (rv_move rfl) rfl ?_ | refine GL.valG rfl (fun hb => rv_move (by first | exact evb rfl hb | rfl)) rfl ?_
      first | refine GL.skipG rfl rfl ?_ | refine GL.skipU rfl rfl ?_ | refine GL.stepG rfl (ot_call hb_8 rfl (callOk fun w hh => few2_b _ wA _ wc w hb2) rfl fun _ _ => ?_)
      first | refine GL.skipG rfl rfl ?_ | refine GL.skipU rfl rfl ?_ | refine GL.valT rfl (rv_not rfl) rfl ?_ | refine GL.valG rfl (fun hb => rv_not (by first | exact evb rfl hb | rfl)) rfl ?_
      refine GL.val ((by first | exact rv_orF rfl rfl rfl | exact rv_orT rfl rfl rfl | exact rv_pickOr rfl rfl rfl)) rfl ?_
      refine GL.val (rv_move rfl) rfl ?_
      first | refine GL.skipG rfl rfl ?_ | refine GL.skipU rfl rfl ?_ | refine GL.valT rfl (rv_move rfl) rfl ?_ | refine GL.valG rfl (fun hb => rv_move (by first | exact evb rfl hb | rfl)) rfl ?_
      first | refine GL.skipG rfl rfl ?_ | refine GL.skipU rfl rfl ?_ | refine GL.stepG rfl (ot_call hb_8 rfl (callOk fun w hh => few2_b _ qA _ qc w hb3) rfl fun _ _ => ?_)
      first | refine GL.skipG rfl rfl ?_ | refine GL.skipU rfl rfl ?_ | refine GL.valT rfl (rv_not rfl) rfl ?_ | refine GL.valG rfl (fun hb => rv_not (by first | exact evb rfl hb | rfl)) rfl ?_
      refine GL.val ((by first | exact rv_orF rfl rfl rfl | exact rv_orT rfl rfl rfl | exact rv_pickOr rfl rfl rfl)) rfl ?_
      refine GL.val (rv_move rfl) rfl ?_
      first | refine GL.skipG rfl rfl ?_ | refine GL.skipU rfl rfl ?_ | refine GL.valT rfl (rv_field fo_25_0 rfl rfl) rfl ?_ | refine GL.valG rfl (fun hb => rv_field fo_25_0 (by first | exact evb rfl hb | rfl) (by first | exact evb rfl hb | rfl)) rfl ?_
      first | refine GL.skipG rfl rfl ?_ | refine GL.skipU rfl rfl ?_ | refine GL.valT rfl (rv_load ag_9 rfl (by first | exact Hd.cell (k := 0) rfl rfl | exact Hd.rowCell (k := 0) rfl (by assumption))) rfl ?_ | refine GL.valG rfl (fun hb => rv_load ag_9 (by first | exact evb rfl hb | rfl) (by first | exact Hd.cell (k := 0) (by first | exact evb rfl hb | rfl) (by first | exact evb rfl hb | rfl) | exact Hd.rowCell (k := 0) (by first | exact evb rfl hb | rfl) (by assumption))) rfl ?_
      first | refine GL.skipG rfl rfl ?_ | refine GL.skipU rfl rfl ?_ | refine GL.valT rfl (rv_move rfl) rfl ?_ | refine GL.valG rfl (fun hb => rv_move (by first | exact evb rfl hb | rfl)) rfl ?_
      first | refine GL.skipG rfl rfl ?_ | refine GL.skipU rfl rfl ?_ | refine GL.stepG rfl (ot_call hb_16 rfl (callOk fun w hh => rcheck_c cn _ _ _ qk w hns rfl) rfl fun _ _ => ?_)
      first | refine GL.skipG rfl rfl ?_ | refine GL.skipU rfl rfl ?_ | refine GL.valT rfl ((by first | exact rv_to (v' := .bool true) (rv_neI rfl rfl) (by simp only [Value.bool.injEq, decide_eq_true_eq, decide_eq_false_iff_not]; first | assumption | omega) | exact rv_to (v' := .bool false) (rv_neI rfl rfl) (by simp only [Value.bool.injEq, decide_eq_true_eq, decide_eq_false_iff_not]; first | assumption | omega))) rfl ?_ | refine GL.valG rfl (fun hb => (by first | exact rv_to (v' := .bool true) (rv_neI (by first | exact evb rfl hb | rfl) (by first | exact evb rfl hb | rfl)) (by simp only [Value.bool.injEq, decide_eq_true_eq, decide_eq_false_iff_not]; first | assumption | omega) | exact rv_to (v' := .bool false) (rv_neI (by first | exact evb rfl hb | rfl) (by first | exact evb rfl hb | rfl)) (by simp only [Value.bool.injEq, decide_eq_true_eq, decide_eq_false_iff_not]; first | assumption | omega))) rfl ?_
      refine GL.val ((by first | exact rv_orF rfl rfl rfl | exact rv_orT rfl rfl rfl | exact rv_pickOr rfl rfl rfl)) rfl ?_
      refine GL.val (rv_move rfl) rfl ?_
      first | refine GL.skipG rfl rfl ?_ | refine GL.skipU rfl rfl ?_ | refine GL.valT rfl (rv_field fo_25_2 rfl rfl) rfl ?_ | refine GL.valG rfl (fun hb => rv_field fo_25_2 (by first | exact evb rfl hb | rfl) (by first | exact evb rfl hb | rfl)) rfl ?_
      first | refine GL.skipG rfl rfl ?_ | refine GL.skipU rfl rfl ?_ | refine GL.valT rfl (rv_load ag_23 rfl (by first | exact Hd.cell (k := 0) rfl rfl | exact Hd.rowCell (k := 0) rfl (by assumption))) rfl ?_ | refine GL.valG rfl (fun hb => rv_load ag_23 (by first | exact evb rfl hb | rfl) (by first | exact Hd.cell (k := 0) (by first | exact evb rfl hb | rfl) (by first | exact evb rfl hb | rfl) | exact Hd.rowCell (k := 0) (by first | exact evb rfl hb | rfl) (by assumption))) rfl ?_
      first | refine GL.skipG rfl rfl ?_ | refine GL.skipU rfl rfl ?_ | refine GL.valT rfl ((by first | exact rv_to (v' := .bool true) (rv_eq64 (b := 18446744073709551615) rfl rfl) (by simp only [Value.bool.injEq, decide_eq_true_eq, decide_eq_false_iff_not]; first | assumption | omega) | exact rv_to (v' := .bool false) (rv_eq64 (b := 18446744073709551615) rfl rfl) (by simp only [Value.bool.injEq, decide_eq_true_eq, decide_eq_false_iff_not]; first | assumption | omega))) rfl ?_ | refine GL.valG rfl (fun hb => (by first | exact rv_to (v' := .bool true) (rv_eq64 (b := 18446744073709551615) (by first | exact evb rfl hb | rfl) (by first | exact evb rfl hb | rfl)) (by simp only [Value.bool.injEq, decide_eq_true_eq, decide_eq_false_iff_not]; first | assumption | omega) | exact rv_to (v' := .bool false) (rv_eq64 (b := 18446744073709551615) (by first | exact evb rfl hb | rfl) (by first | exact evb rfl hb | rfl)) (by simp only [Value.bool.injEq, decide_eq_true_eq, decide_eq_false_iff_not]; first | assumption | omega))) rfl ?_
      refine GL.val ((by first | exact rv_orF rfl rfl rfl | exact rv_orT rfl rfl rfl | exact rv_pickOr rfl rfl rfl)) rfl ?_
      refine GL.nil ?_
      exact GX.cutq () trivial (by repeat (first | exact Sub.nil | refine Sub.cons rfl ?_)) (fun w9 h => by
          exact h)
    · have hb1 : decide (ck.length ≤ 2000) = true := decide_eq_true (by omega)
      have hb2 : decide (wk.length ≤ 2000) = false := decide_eq_false (by omega)
      have hb3 : decide (qk.length ≤ 2000) = decide (qk.length ≤ 2000) := rfl
      rw [show decide ((2000 < ck.length) ∨ (2000 < wk.length) ∨ (2000 < qk.length) ∨ (chk cn qk ≠ 0) ∨ (cs = 18446744073709551615)) = true from decide_eq_true (.inr (.inl p2))]
      refine GC.reg ?_
      refine GL.val (rv_field fo_25_1 rfl rfl) rfl ?_
      refine GL.val (rv_load ag_22 rfl (by first | exact Hd.cell (k := 0) rfl rfl | exact Hd.rowCell (k := 0) rfl (by assumption))) rfl ?_
      refine GL.step (ot_call hb_8 rfl (callOk fun w hh => few2_b _ cA _ cc w hb1) rfl fun _ _ => ?_)
      refine GL.val (rv_not rfl) rfl ?_
      refine GL.val (rv_move rfl) rfl ?_
      first | refine GL.skipG rfl rfl ?_ | refine GL.skipU rfl rfl ?_ | refine GL.valT rfl (rv_move rfl) rfl ?_ | refine GL.valG rfl (fun hb => rv_move (by first | exact evb rfl hb | rfl)) rfl ?_
      first | refine GL.skipG rfl rfl ?_ | refine GL.skipU rfl rfl ?_ | refine GL.stepG rfl (ot_call hb_8 rfl (callOk fun w hh => few2_b _ wA _ wc w hb2) rfl fun _ _ => ?_)
      first | refine GL.skipG rfl rfl ?_ | refine GL.skipU rfl rfl ?_ | refine GL.valT rfl (rv_not rfl) rfl ?_ | refine GL.valG rfl (fun hb => rv_not (by first | exact evb rfl hb | rfl)) rfl ?_
      refine GL.val ((by first | exact rv_orF rfl rfl rfl | exact rv_orT rfl rfl rfl | exact rv_pickOr rfl rfl rfl)) rfl ?_
      refine GL.val (rv_move rfl) rfl ?_
      first | refine GL.skipG rfl rfl ?_ | refine GL.skipU rfl rfl ?_ | refine GL.valT rfl (rv_move rfl) rfl ?_ | refine GL.valG rfl (fun hb => rv_move (by first | exact evb rfl hb | rfl)) rfl ?_
      first | refine GL.skipG rfl rfl ?_ | refine GL.skipU rfl rfl ?_ | refine GL.stepG rfl (ot_call hb_8 rfl (callOk fun w hh => few2_b _ qA _ qc w hb3) rfl fun _ _ => ?_)
      first | refine GL.skipG rfl rfl ?_ | refine GL.skipU rfl rfl ?_ | refine GL.valT rfl (rv_not rfl) rfl ?_ | refine GL.valG rfl (fun hb => rv_not (by first | exact evb rfl hb | rfl)) rfl ?_
      refine GL.val ((by first | exact rv_orF rfl rfl rfl | exact rv_orT rfl rfl rfl | exact rv_pickOr rfl rfl rfl)) rfl ?_
      refine GL.val (rv_move rfl) rfl ?_
      first | refine GL.skipG rfl rfl ?_ | refine GL.skipU rfl rfl ?_ | refine GL.valT rfl (rv_field fo_25_0 rfl rfl) rfl ?_ | refine GL.valG rfl (fun hb => rv_field fo_25_0 (by first | exact evb rfl hb | rfl) (by first | exact evb rfl hb | rfl)) rfl ?_
      first | refine GL.skipG rfl rfl ?_ | refine GL.skipU rfl rfl ?_ | refine GL.valT rfl (rv_load ag_9 rfl (by first | exact Hd.cell (k := 0) rfl rfl | exact Hd.rowCell (k := 0) rfl (by assumption))) rfl ?_ | refine GL.valG rfl (fun hb => rv_load ag_9 (by first | exact evb rfl hb | rfl) (by first | exact Hd.cell (k := 0) (by first | exact evb rfl hb | rfl) (by first | exact evb rfl hb | rfl) | exact Hd.rowCell (k := 0) (by first | exact evb rfl hb | rfl) (by assumption))) rfl ?_
      first | refine GL.skipG rfl rfl ?_ | refine GL.skipU rfl rfl ?_ | refine GL.valT rfl (rv_move rfl) rfl ?_ | refine GL.valG rfl (fun hb => rv_move (by first | exact evb rfl hb | rfl)) rfl ?_
      first | refine GL.skipG rfl rfl ?_ | refine GL.skipU rfl rfl ?_ | refine GL.stepG rfl (ot_call hb_16 rfl (callOk fun w hh => rcheck_c cn _ _ _ qk w hns rfl) rfl fun _ _ => ?_)
      first | refine GL.skipG rfl rfl ?_ | refine GL.skipU rfl rfl ?_ | refine GL.valT rfl ((by first | exact rv_to (v' := .bool true) (rv_neI rfl rfl) (by simp only [Value.bool.injEq, decide_eq_true_eq, decide_eq_false_iff_not]; first | assumption | omega) | exact rv_to (v' := .bool false) (rv_neI rfl rfl) (by simp only [Value.bool.injEq, decide_eq_true_eq, decide_eq_false_iff_not]; first | assumption | omega))) rfl ?_ | refine GL.valG rfl (fun hb => (by first | exact rv_to (v' := .bool true) (rv_neI (by first | exact evb rfl hb | rfl) (by first | exact evb rfl hb | rfl)) (by simp only [Value.bool.injEq, decide_eq_true_eq, decide_eq_false_iff_not]; first | assumption | omega) | exact rv_to (v' := .bool false) (rv_neI (by first | exact evb rfl hb | rfl) (by first | exact evb rfl hb | rfl)) (by simp only [Value.bool.injEq, decide_eq_true_eq, decide_eq_false_iff_not]; first | assumption | omega))) rfl ?_
      refine GL.val ((by first | exact rv_orF rfl rfl rfl | exact rv_orT rfl rfl rfl | exact rv_pickOr rfl rfl rfl)) rfl ?_
      refine GL.val (rv_move rfl) rfl ?_
      first | refine GL.skipG rfl rfl ?_ | refine GL.skipU rfl rfl ?_ | refine GL.valT rfl (rv_field fo_25_2 rfl rfl) rfl ?_ | refine GL.valG rfl (fun hb => rv_field fo_25_2 (by first | exact evb rfl hb | rfl) (by first | exact evb rfl hb | rfl)) rfl ?_
      first | refine GL.skipG rfl rfl ?_ | refine GL.skipU rfl rfl ?_ | refine GL.valT rfl (rv_load ag_23 rfl (by first | exact Hd.cell (k := 0) rfl rfl | exact Hd.rowCell (k := 0) rfl (by assumption))) rfl ?_ | refine GL.valG rfl (fun hb => rv_load ag_23 (by first | exact evb rfl hb | rfl) (by first | exact Hd.cell (k := 0) (by first | exact evb rfl hb | rfl) (by first | exact evb rfl hb | rfl) | exact Hd.rowCell (k := 0) (by first | exact evb rfl hb | rfl) (by assumption))) rfl ?_
      first | refine GL.skipG rfl rfl ?_ | refine GL.skipU rfl rfl ?_ | refine GL.valT rfl ((by first | exact rv_to (v' := .bool true) (rv_eq64 (b := 18446744073709551615) rfl rfl) (by simp only [Value.bool.injEq, decide_eq_true_eq, decide_eq_false_iff_not]; first | assumption | omega) | exact rv_to (v' := .bool false) (rv_eq64 (b := 18446744073709551615) rfl rfl) (by simp only [Value.bool.injEq, decide_eq_true_eq, decide_eq_false_iff_not]; first | assumption | omega))) rfl ?_ | refine GL.valG rfl (fun hb => (by first | exact rv_to (v' := .bool true) (rv_eq64 (b := 18446744073709551615) (by first | exact evb rfl hb | rfl) (by first | exact evb rfl hb | rfl)) (by simp only [Value.bool.injEq, decide_eq_true_eq, decide_eq_false_iff_not]; first | assumption | omega) | exact rv_to (v' := .bool false) (rv_eq64 (b := 18446744073709551615) (by first | exact evb rfl hb | rfl) (by first | exact evb rfl hb | rfl)) (by simp only [Value.bool.injEq, decide_eq_true_eq, decide_eq_false_iff_not]; first | assumption | omega))) rfl ?_
      refine GL.val ((by first | exact rv_orF rfl rfl rfl | exact rv_orT rfl rfl rfl | exact rv_pickOr rfl rfl rfl)) rfl ?_
      refine GL.nil ?_
      exact GX.cutq () trivial (by repeat (first | exact Sub.nil | refine Sub.cons rfl ?_)) (fun w9 h => by
          exact h)
    · have hb1 : decide (ck.length ≤ 2000) = true := decide_eq_true (by omega)
      have hb2 : decide (wk.length ≤ 2000) = true := decide_eq_true (by omega)
      have hb3 : decide (qk.length ≤ 2000) = false := decide_eq_false (by omega)
      rw [show decide ((2000 < ck.length) ∨ (2000 < wk.length) ∨ (2000 < qk.length) ∨ (chk cn qk ≠ 0) ∨ (cs = 18446744073709551615)) = true from decide_eq_true (.inr (.inr (.inl p3)))]
      refine GC.reg ?_
      refine GL.val (rv_field fo_25_1 rfl rfl) rfl ?_
      refine GL.val (rv_load ag_22 rfl (by first | exact Hd.cell (k := 0) rfl rfl | exact Hd.rowCell (k := 0) rfl (by assumption))) rfl ?_
      refine GL.step (ot_call hb_8 rfl (callOk fun w hh => few2_b _ cA _ cc w hb1) rfl fun _ _ => ?_)
      refine GL.val (rv_not rfl) rfl ?_
      refine GL.val (rv_move rfl) rfl ?_
      first | refine GL.skipG rfl rfl ?_ | refine GL.skipU rfl rfl ?_ | refine GL.valT rfl (rv_move rfl) rfl ?_ | refine GL.valG rfl (fun hb => rv_move (by first | exact evb rfl hb | rfl)) rfl ?_
      first | refine GL.skipG rfl rfl ?_ | refine GL.skipU rfl rfl ?_ | refine GL.stepG rfl (ot_call hb_8 rfl (callOk fun w hh => few2_b _ wA _ wc w hb2) rfl fun _ _ => ?_)
      first | refine GL.skipG rfl rfl ?_ | refine GL.skipU rfl rfl ?_ | refine GL.valT rfl (rv_not rfl) rfl ?_ | refine GL.valG rfl (fun hb => rv_not (by first | exact evb rfl hb | rfl)) rfl ?_
      refine GL.val ((by first | exact rv_orF rfl rfl rfl | exact rv_orT rfl rfl rfl | exact rv_pickOr rfl rfl rfl)) rfl ?_
      refine GL.val (rv_move rfl) rfl ?_
      first | refine GL.skipG rfl rfl ?_ | refine GL.skipU rfl rfl ?_ | refine GL.valT rfl (rv_move rfl) rfl ?_ | refine GL.valG rfl (fun hb => rv_move (by first | exact evb rfl hb | rfl)) rfl ?_
      first | refine GL.skipG rfl rfl ?_ | refine GL.skipU rfl rfl ?_ | refine GL.stepG rfl (ot_call hb_8 rfl (callOk fun w hh => few2_b _ qA _ qc w hb3) rfl fun _ _ => ?_)
      first | refine GL.skipG rfl rfl ?_ | refine GL.skipU rfl rfl ?_ | refine GL.valT rfl (rv_not rfl) rfl ?_ | refine GL.valG rfl (fun hb => rv_not (by first | exact evb rfl hb | rfl)) rfl ?_
      refine GL.val ((by first | exact rv_orF rfl rfl rfl | exact rv_orT rfl rfl rfl | exact rv_pickOr rfl rfl rfl)) rfl ?_
      refine GL.val (rv_move rfl) rfl ?_
      first | refine GL.skipG rfl rfl ?_ | refine GL.skipU rfl rfl ?_ | refine GL.valT rfl (rv_field fo_25_0 rfl rfl) rfl ?_ | refine GL.valG rfl (fun hb => rv_field fo_25_0 (by first | exact evb rfl hb | rfl) (by first | exact evb rfl hb | rfl)) rfl ?_
      first | refine GL.skipG rfl rfl ?_ | refine GL.skipU rfl rfl ?_ | refine GL.valT rfl (rv_load ag_9 rfl (by first | exact Hd.cell (k := 0) rfl rfl | exact Hd.rowCell (k := 0) rfl (by assumption))) rfl ?_ | refine GL.valG rfl (fun hb => rv_load ag_9 (by first | exact evb rfl hb | rfl) (by first | exact Hd.cell (k := 0) (by first | exact evb rfl hb | rfl) (by first | exact evb rfl hb | rfl) | exact Hd.rowCell (k := 0) (by first | exact evb rfl hb | rfl) (by assumption))) rfl ?_
      first | refine GL.skipG rfl rfl ?_ | refine GL.skipU rfl rfl ?_ | refine GL.valT rfl (rv_move rfl) rfl ?_ | refine GL.valG rfl (fun hb => rv_move (by first | exact evb rfl hb | rfl)) rfl ?_
      first | refine GL.skipG rfl rfl ?_ | refine GL.skipU rfl rfl ?_ | refine GL.stepG rfl (ot_call hb_16 rfl (callOk fun w hh => rcheck_c cn _ _ _ qk w hns rfl) rfl fun _ _ => ?_)
      first | refine GL.skipG rfl rfl ?_ | refine GL.skipU rfl rfl ?_ | refine GL.valT rfl ((by first | exact rv_to (v' := .bool true) (rv_neI rfl rfl) (by simp only [Value.bool.injEq, decide_eq_true_eq, decide_eq_false_iff_not]; first | assumption | omega) | exact rv_to (v' := .bool false) (rv_neI rfl rfl) (by simp only [Value.bool.injEq, decide_eq_true_eq, decide_eq_false_iff_not]; first | assumption | omega))) rfl ?_ | refine GL.valG rfl (fun hb => (by first | exact rv_to (v' := .bool true) (rv_neI (by first | exact evb rfl hb | rfl) (by first | exact evb rfl hb | rfl)) (by simp only [Value.bool.injEq, decide_eq_true_eq, decide_eq_false_iff_not]; first | assumption | omega) | exact rv_to (v' := .bool false) (rv_neI (by first | exact evb rfl hb | rfl) (by first | exact evb rfl hb | rfl)) (by simp only [Value.bool.injEq, decide_eq_true_eq, decide_eq_false_iff_not]; first | assumption | omega))) rfl ?_
      refine GL.val ((by first | exact rv_orF rfl rfl rfl | exact rv_orT rfl rfl rfl | exact rv_pickOr rfl rfl rfl)) rfl ?_
      refine GL.val (rv_move rfl) rfl ?_
      first | refine GL.skipG rfl rfl ?_ | refine GL.skipU rfl rfl ?_ | refine GL.valT rfl (rv_field fo_25_2 rfl rfl) rfl ?_ | refine GL.valG rfl (fun hb => rv_field fo_25_2 (by first | exact evb rfl hb | rfl) (by first | exact evb rfl hb | rfl)) rfl ?_
      first | refine GL.skipG rfl rfl ?_ | refine GL.skipU rfl rfl ?_ | refine GL.valT rfl (rv_load ag_23 rfl (by first | exact Hd.cell (k := 0) rfl rfl | exact Hd.rowCell (k := 0) rfl (by assumption))) rfl ?_ | refine GL.valG rfl (fun hb => rv_load ag_23 (by first | exact evb rfl hb | rfl) (by first | exact Hd.cell (k := 0) (by first | exact evb rfl hb | rfl) (by first | exact evb rfl hb | rfl) | exact Hd.rowCell (k := 0) (by first | exact evb rfl hb | rfl) (by assumption))) rfl ?_
      first | refine GL.skipG rfl rfl ?_ | refine GL.skipU rfl rfl ?_ | refine GL.valT rfl ((by first | exact rv_to (v' := .bool true) (rv_eq64 (b := 18446744073709551615) rfl rfl) (by simp only [Value.bool.injEq, decide_eq_true_eq, decide_eq_false_iff_not]; first | assumption | omega) | exact rv_to (v' := .bool false) (rv_eq64 (b := 18446744073709551615) rfl rfl) (by simp only [Value.bool.injEq, decide_eq_true_eq, decide_eq_false_iff_not]; first | assumption | omega))) rfl ?_ | refine GL.valG rfl (fun hb => (by first | exact rv_to (v' := .bool true) (rv_eq64 (b := 18446744073709551615) (by first | exact evb rfl hb | rfl) (by first | exact evb rfl hb | rfl)) (by simp only [Value.bool.injEq, decide_eq_true_eq, decide_eq_false_iff_not]; first | assumption | omega) | exact rv_to (v' := .bool false) (rv_eq64 (b := 18446744073709551615) (by first | exact evb rfl hb | rfl) (by first | exact evb rfl hb | rfl)) (by simp only [Value.bool.injEq, decide_eq_true_eq, decide_eq_false_iff_not]; first | assumption | omega))) rfl ?_
      refine GL.val ((by first | exact rv_orF rfl rfl rfl | exact rv_orT rfl rfl rfl | exact rv_pickOr rfl rfl rfl)) rfl ?_
      refine GL.nil ?_
      exact GX.cutq () trivial (by repeat (first | exact Sub.nil | refine Sub.cons rfl ?_)) (fun w9 h => by
          exact h)
    · have hb1 : decide (ck.length ≤ 2000) = true := decide_eq_true (by omega)
      have hb2 : decide (wk.length ≤ 2000) = true := decide_eq_true (by omega)
      have hb3 : decide (qk.length ≤ 2000) = true := decide_eq_true (by omega)
      rw [show decide ((2000 < ck.length) ∨ (2000 < wk.length) ∨ (2000 < qk.length) ∨ (chk cn qk ≠ 0) ∨ (cs = 18446744073709551615)) = true from decide_eq_true (.inr (.inr (.inr (.inl p4))))]
      refine GC.reg ?_
      refine GL.val (rv_field fo_25_1 rfl rfl) rfl ?_
      refine GL.val (rv_load ag_22 rfl (by first | exact Hd.cell (k := 0) rfl rfl | exact Hd.rowCell (k := 0) rfl (by assumption))) rfl ?_
      refine GL.step (ot_call hb_8 rfl (callOk fun w hh => few2_b _ cA _ cc w hb1) rfl fun _ _ => ?_)
      refine GL.val (rv_not rfl) rfl ?_
      refine GL.val (rv_move rfl) rfl ?_
      first | refine GL.skipG rfl rfl ?_ | refine GL.skipU rfl rfl ?_ | refine GL.valT rfl (rv_move rfl) rfl ?_ | refine GL.valG rfl (fun hb => rv_move (by first | exact evb rfl hb | rfl)) rfl ?_
      first | refine GL.skipG rfl rfl ?_ | refine GL.skipU rfl rfl ?_ | refine GL.stepG rfl (ot_call hb_8 rfl (callOk fun w hh => few2_b _ wA _ wc w hb2) rfl fun _ _ => ?_)
      first | refine GL.skipG rfl rfl ?_ | refine GL.skipU rfl rfl ?_ | refine GL.valT rfl (rv_not rfl) rfl ?_ | refine GL.valG rfl (fun hb => rv_not (by first | exact evb rfl hb | rfl)) rfl ?_
      refine GL.val ((by first | exact rv_orF rfl rfl rfl | exact rv_orT rfl rfl rfl | exact rv_pickOr rfl rfl rfl)) rfl ?_
      refine GL.val (rv_move rfl) rfl ?_
      first | refine GL.skipG rfl rfl ?_ | refine GL.skipU rfl rfl ?_ | refine GL.valT rfl (rv_move rfl) rfl ?_ | refine GL.valG rfl (fun hb => rv_move (by first | exact evb rfl hb | rfl)) rfl ?_
      first | refine GL.skipG rfl rfl ?_ | refine GL.skipU rfl rfl ?_ | refine GL.stepG rfl (ot_call hb_8 rfl (callOk fun w hh => few2_b _ qA _ qc w hb3) rfl fun _ _ => ?_)
      first | refine GL.skipG rfl rfl ?_ | refine GL.skipU rfl rfl ?_ | refine GL.valT rfl (rv_not rfl) rfl ?_ | refine GL.valG rfl (fun hb => rv_not (by first | exact evb rfl hb | rfl)) rfl ?_
      refine GL.val ((by first | exact rv_orF rfl rfl rfl | exact rv_orT rfl rfl rfl | exact rv_pickOr rfl rfl rfl)) rfl ?_
      refine GL.val (rv_move rfl) rfl ?_
      first | refine GL.skipG rfl rfl ?_ | refine GL.skipU rfl rfl ?_ | refine GL.valT rfl (rv_field fo_25_0 rfl rfl) rfl ?_ | refine GL.valG rfl (fun hb => rv_field fo_25_0 (by first | exact evb rfl hb | rfl) (by first | exact evb rfl hb | rfl)) rfl ?_
      first | refine GL.skipG rfl rfl ?_ | refine GL.skipU rfl rfl ?_ | refine GL.valT rfl (rv_load ag_9 rfl (by first | exact Hd.cell (k := 0) rfl rfl | exact Hd.rowCell (k := 0) rfl (by assumption))) rfl ?_ | refine GL.valG rfl (fun hb => rv_load ag_9 (by first | exact evb rfl hb | rfl) (by first | exact Hd.cell (k := 0) (by first | exact evb rfl hb | rfl) (by first | exact evb rfl hb | rfl) | exact Hd.rowCell (k := 0) (by first | exact evb rfl hb | rfl) (by assumption))) rfl ?_
      first | refine GL.skipG rfl rfl ?_ | refine GL.skipU rfl rfl ?_ | refine GL.valT rfl (rv_move rfl) rfl ?_ | refine GL.valG rfl (fun hb => rv_move (by first | exact evb rfl hb | rfl)) rfl ?_
      first | refine GL.skipG rfl rfl ?_ | refine GL.skipU rfl rfl ?_ | refine GL.stepG rfl (ot_call hb_16 rfl (callOk fun w hh => rcheck_c cn _ _ _ qk w hns rfl) rfl fun _ _ => ?_)
      first | refine GL.skipG rfl rfl ?_ | refine GL.skipU rfl rfl ?_ | refine GL.valT rfl ((by first | exact rv_to (v' := .bool true) (rv_neI rfl rfl) (by simp only [Value.bool.injEq, decide_eq_true_eq, decide_eq_false_iff_not]; first | assumption | omega) | exact rv_to (v' := .bool false) (rv_neI rfl rfl) (by simp only [Value.bool.injEq, decide_eq_true_eq, decide_eq_false_iff_not]; first | assumption | omega))) rfl ?_ | refine GL.valG rfl (fun hb => (by first | exact rv_to (v' := .bool true) (rv_neI (by first | exact evb rfl hb | rfl) (by first | exact evb rfl hb | rfl)) (by simp only [Value.bool.injEq, decide_eq_true_eq, decide_eq_false_iff_not]; first | assumption | omega) | exact rv_to (v' := .bool false) (rv_neI (by first | exact evb rfl hb | rfl) (by first | exact evb rfl hb | rfl)) (by simp only [Value.bool.injEq, decide_eq_true_eq, decide_eq_false_iff_not]; first | assumption | omega))) rfl ?_
      refine GL.val ((by first | exact rv_orF rfl rfl rfl | exact rv_orT rfl rfl rfl | exact rv_pickOr rfl rfl rfl)) rfl ?_
      refine GL.val (rv_move rfl) rfl ?_
      first | refine GL.skipG rfl rfl ?_ | refine GL.skipU rfl rfl ?_ | refine GL.valT rfl (rv_field fo_25_2 rfl rfl) rfl ?_ | refine GL.valG rfl (fun hb => rv_field fo_25_2 (by first | exact evb rfl hb | rfl) (by first | exact evb rfl hb | rfl)) rfl ?_
      first | refine GL.skipG rfl rfl ?_ | refine GL.skipU rfl rfl ?_ | refine GL.valT rfl (rv_load ag_23 rfl (by first | exact Hd.cell (k := 0) rfl rfl | exact Hd.rowCell (k := 0) rfl (by assumption))) rfl ?_ | refine GL.valG rfl (fun hb => rv_load ag_23 (by first | exact evb rfl hb | rfl) (by first | exact Hd.cell (k := 0) (by first | exact evb rfl hb | rfl) (by first | exact evb rfl hb | rfl) | exact Hd.rowCell (k := 0) (by first | exact evb rfl hb | rfl) (by assumption))) rfl ?_
      first | refine GL.skipG rfl rfl ?_ | refine GL.skipU rfl rfl ?_ | refine GL.valT rfl ((by first | exact rv_to (v' := .bool true) (rv_eq64 (b := 18446744073709551615) rfl rfl) (by simp only [Value.bool.injEq, decide_eq_true_eq, decide_eq_false_iff_not]; first | assumption | omega) | exact rv_to (v' := .bool false) (rv_eq64 (b := 18446744073709551615) rfl rfl) (by simp only [Value.bool.injEq, decide_eq_true_eq, decide_eq_false_iff_not]; first | assumption | omega))) rfl ?_ | refine GL.valG rfl (fun hb => (by first | exact rv_to (v' := .bool true) (rv_eq64 (b := 18446744073709551615) (by first | exact evb rfl hb | rfl) (by first | exact evb rfl hb | rfl)) (by simp only [Value.bool.injEq, decide_eq_true_eq, decide_eq_false_iff_not]; first | assumption | omega) | exact rv_to (v' := .bool false) (rv_eq64 (b := 18446744073709551615) (by first | exact evb rfl hb | rfl) (by first | exact evb rfl hb | rfl)) (by simp only [Value.bool.injEq, decide_eq_true_eq, decide_eq_false_iff_not]; first | assumption | omega))) rfl ?_
      refine GL.val ((by first | exact rv_orF rfl rfl rfl | exact rv_orT rfl rfl rfl | exact rv_pickOr rfl rfl rfl)) rfl ?_
      refine GL.nil ?_
      exact GX.cutq () trivial (by repeat (first | exact Sub.nil | refine Sub.cons rfl ?_)) (fun w9 h => by
          exact h)
    · have hb1 : decide (ck.length ≤ 2000) = true := decide_eq_true (by omega)
      have hb2 : decide (wk.length ≤ 2000) = true := decide_eq_true (by omega)
      have hb3 : decide (qk.length ≤ 2000) = true := decide_eq_true (by omega)
      rw [show decide ((2000 < ck.length) ∨ (2000 < wk.length) ∨ (2000 < qk.length) ∨ (chk cn qk ≠ 0) ∨ (cs = 18446744073709551615)) = true from decide_eq_true (.inr (.inr (.inr (.inr (p5)))))]
      refine GC.reg ?_
      refine GL.val (rv_field fo_25_1 rfl rfl) rfl ?_
      refine GL.val (rv_load ag_22 rfl (by first | exact Hd.cell (k := 0) rfl rfl | exact Hd.rowCell (k := 0) rfl (by assumption))) rfl ?_
      refine GL.step (ot_call hb_8 rfl (callOk fun w hh => few2_b _ cA _ cc w hb1) rfl fun _ _ => ?_)
      refine GL.val (rv_not rfl) rfl ?_
      refine GL.val (rv_move rfl) rfl ?_
      first | refine GL.skipG rfl rfl ?_ | refine GL.skipU rfl rfl ?_ | refine GL.valT rfl (rv_move rfl) rfl ?_ | refine GL.valG rfl (fun hb => rv_move (by first | exact evb rfl hb | rfl)) rfl ?_
      first | refine GL.skipG rfl rfl ?_ | refine GL.skipU rfl rfl ?_ | refine GL.stepG rfl (ot_call hb_8 rfl (callOk fun w hh => few2_b _ wA _ wc w hb2) rfl fun _ _ => ?_)
      first | refine GL.skipG rfl rfl ?_ | refine GL.skipU rfl rfl ?_ | refine GL.valT rfl (rv_not rfl) rfl ?_ | refine GL.valG rfl (fun hb => rv_not (by first | exact evb rfl hb | rfl)) rfl ?_
      refine GL.val ((by first | exact rv_orF rfl rfl rfl | exact rv_orT rfl rfl rfl | exact rv_pickOr rfl rfl rfl)) rfl ?_
      refine GL.val (rv_move rfl) rfl ?_
      first | refine GL.skipG rfl rfl ?_ | refine GL.skipU rfl rfl ?_ | refine GL.valT rfl (rv_move rfl) rfl ?_ | refine GL.valG rfl (fun hb => rv_move (by first | exact evb rfl hb | rfl)) rfl ?_
      first | refine GL.skipG rfl rfl ?_ | refine GL.skipU rfl rfl ?_ | refine GL.stepG rfl (ot_call hb_8 rfl (callOk fun w hh => few2_b _ qA _ qc w hb3) rfl fun _ _ => ?_)
      first | refine GL.skipG rfl rfl ?_ | refine GL.skipU rfl rfl ?_ | refine GL.valT rfl (rv_not rfl) rfl ?_ | refine GL.valG rfl (fun hb => rv_not (by first | exact evb rfl hb | rfl)) rfl ?_
      refine GL.val ((by first | exact rv_orF rfl rfl rfl | exact rv_orT rfl rfl rfl | exact rv_pickOr rfl rfl rfl)) rfl ?_
      refine GL.val (rv_move rfl) rfl ?_
      first | refine GL.skipG rfl rfl ?_ | refine GL.skipU rfl rfl ?_ | refine GL.valT rfl (rv_field fo_25_0 rfl rfl) rfl ?_ | refine GL.valG rfl (fun hb => rv_field fo_25_0 (by first | exact evb rfl hb | rfl) (by first | exact evb rfl hb | rfl)) rfl ?_
      first | refine GL.skipG rfl rfl ?_ | refine GL.skipU rfl rfl ?_ | refine GL.valT rfl (rv_load ag_9 rfl (by first | exact Hd.cell (k := 0) rfl rfl | exact Hd.rowCell (k := 0) rfl (by assumption))) rfl ?_ | refine GL.valG rfl (fun hb => rv_load ag_9 (by first | exact evb rfl hb | rfl) (by first | exact Hd.cell (k := 0) (by first | exact evb rfl hb | rfl) (by first | exact evb rfl hb | rfl) | exact Hd.rowCell (k := 0) (by first | exact evb rfl hb | rfl) (by assumption))) rfl ?_
      first | refine GL.skipG rfl rfl ?_ | refine GL.skipU rfl rfl ?_ | refine GL.valT rfl (rv_move rfl) rfl ?_ | refine GL.valG rfl (fun hb => rv_move (by first | exact evb rfl hb | rfl)) rfl ?_
      first | refine GL.skipG rfl rfl ?_ | refine GL.skipU rfl rfl ?_ | refine GL.stepG rfl (ot_call hb_16 rfl (callOk fun w hh => rcheck_c cn _ _ _ qk w hns rfl) rfl fun _ _ => ?_)
      first | refine GL.skipG rfl rfl ?_ | refine GL.skipU rfl rfl ?_ | refine GL.valT rfl ((by first | exact rv_to (v' := .bool true) (rv_neI rfl rfl) (by simp only [Value.bool.injEq, decide_eq_true_eq, decide_eq_false_iff_not]; first | assumption | omega) | exact rv_to (v' := .bool false) (rv_neI rfl rfl) (by simp only [Value.bool.injEq, decide_eq_true_eq, decide_eq_false_iff_not]; first | assumption | omega))) rfl ?_ | refine GL.valG rfl (fun hb => (by first | exact rv_to (v' := .bool true) (rv_neI (by first | exact evb rfl hb | rfl) (by first | exact evb rfl hb | rfl)) (by simp only [Value.bool.injEq, decide_eq_true_eq, decide_eq_false_iff_not]; first | assumption | omega) | exact rv_to (v' := .bool false) (rv_neI (by first | exact evb rfl hb | rfl) (by first | exact evb rfl hb | rfl)) (by simp only [Value.bool.injEq, decide_eq_true_eq, decide_eq_false_iff_not]; first | assumption | omega))) rfl ?_
      refine GL.val ((by first | exact rv_orF rfl rfl rfl | exact rv_orT rfl rfl rfl | exact rv_pickOr rfl rfl rfl)) rfl ?_
      refine GL.val (rv_move rfl) rfl ?_
      first | refine GL.skipG rfl rfl ?_ | refine GL.skipU rfl rfl ?_ | refine GL.valT rfl (rv_field fo_25_2 rfl rfl) rfl ?_ | refine GL.valG rfl (fun hb => rv_field fo_25_2 (by first | exact evb rfl hb | rfl) (by first | exact evb rfl hb | rfl)) rfl ?_
      first | refine GL.skipG rfl rfl ?_ | refine GL.skipU rfl rfl ?_ | refine GL.valT rfl (rv_load ag_23 rfl (by first | exact Hd.cell (k := 0) rfl rfl | exact Hd.rowCell (k := 0) rfl (by assumption))) rfl ?_ | refine GL.valG rfl (fun hb => rv_load ag_23 (by first | exact evb rfl hb | rfl) (by first | exact Hd.cell (k := 0) (by first | exact evb rfl hb | rfl) (by first | exact evb rfl hb | rfl) | exact Hd.rowCell (k := 0) (by first | exact evb rfl hb | rfl) (by assumption))) rfl ?_
      first | refine GL.skipG rfl rfl ?_ | refine GL.skipU rfl rfl ?_ | refine GL.valT rfl ((by first | exact rv_to (v' := .bool true) (rv_eq64 (b := 18446744073709551615) rfl rfl) (by simp only [Value.bool.injEq, decide_eq_true_eq, decide_eq_false_iff_not]; first | assumption | omega) | exact rv_to (v' := .bool false) (rv_eq64 (b := 18446744073709551615) rfl rfl) (by simp only [Value.bool.injEq, decide_eq_true_eq, decide_eq_false_iff_not]; first | assumption | omega))) rfl ?_ | refine GL.valG rfl (fun hb => (by first | exact rv_to (v' := .bool true) (rv_eq64 (b := 18446744073709551615) (by first | exact evb rfl hb | rfl) (by first | exact evb rfl hb | rfl)) (by simp only [Value.bool.injEq, decide_eq_true_eq, decide_eq_false_iff_not]; first | assumption | omega) | exact rv_to (v' := .bool false) (rv_eq64 (b := 18446744073709551615) (by first | exact evb rfl hb | rfl) (by first | exact evb rfl hb | rfl)) (by simp only [Value.bool.injEq, decide_eq_true_eq, decide_eq_false_iff_not]; first | assumption | omega))) rfl ?_
      refine GL.val ((by first | exact rv_orF rfl rfl rfl | exact rv_orT rfl rfl rfl | exact rv_pickOr rfl rfl rfl)) rfl ?_
      refine GL.nil ?_
      exact GX.cutq () trivial (by repeat (first | exact Sub.nil | refine Sub.cons rfl ?_)) (fun w9 h => by
          exact h)
    · have hb1 : decide (ck.length ≤ 2000) = true := decide_eq_true (by omega)
      have hb2 : decide (wk.length ≤ 2000) = true := decide_eq_true (by omega)
      have hb3 : decide (qk.length ≤ 2000) = true := decide_eq_true (by omega)
      rw [show decide ((2000 < ck.length) ∨ (2000 < wk.length) ∨ (2000 < qk.length) ∨ (chk cn qk ≠ 0) ∨ (cs = 18446744073709551615)) = false from decide_eq_false (by intro hh; rcases hh with hh | hh | hh | hh | hh <;> contradiction)]
      refine GC.reg ?_
      refine GL.val (rv_field fo_25_1 rfl rfl) rfl ?_
      refine GL.val (rv_load ag_22 rfl (by first | exact Hd.cell (k := 0) rfl rfl | exact Hd.rowCell (k := 0) rfl (by assumption))) rfl ?_
      refine GL.step (ot_call hb_8 rfl (callOk fun w hh => few2_b _ cA _ cc w hb1) rfl fun _ _ => ?_)
      refine GL.val (rv_not rfl) rfl ?_
      refine GL.val (rv_move rfl) rfl ?_
      first | refine GL.skipG rfl rfl ?_ | refine GL.skipU rfl rfl ?_ | refine GL.valT rfl (rv_move rfl) rfl ?_ | refine GL.valG rfl (fun hb => rv_move (by first | exact evb rfl hb | rfl)) rfl ?_
      first | refine GL.skipG rfl rfl ?_ | refine GL.skipU rfl rfl ?_ | refine GL.stepG rfl (ot_call hb_8 rfl (callOk fun w hh => few2_b _ wA _ wc w hb2) rfl fun _ _ => ?_)
      first | refine GL.skipG rfl rfl ?_ | refine GL.skipU rfl rfl ?_ | refine GL.valT rfl (rv_not rfl) rfl ?_ | refine GL.valG rfl (fun hb => rv_not (by first | exact evb rfl hb | rfl)) rfl ?_
      refine GL.val ((by first | exact rv_orF rfl rfl rfl | exact rv_orT rfl rfl rfl | exact rv_pickOr rfl rfl rfl)) rfl ?_
      refine GL.val (rv_move rfl) rfl ?_
      first | refine GL.skipG rfl rfl ?_ | refine GL.skipU rfl rfl ?_ | refine GL.valT rfl (rv_move rfl) rfl ?_ | refine GL.valG rfl (fun hb => rv_move (by first | exact evb rfl hb | rfl)) rfl ?_
      first | refine GL.skipG rfl rfl ?_ | refine GL.skipU rfl rfl ?_ | refine GL.stepG rfl (ot_call hb_8 rfl (callOk fun w hh => few2_b _ qA _ qc w hb3) rfl fun _ _ => ?_)
      first | refine GL.skipG rfl rfl ?_ | refine GL.skipU rfl rfl ?_ | refine GL.valT rfl (rv_not rfl) rfl ?_ | refine GL.valG rfl (fun hb => rv_not (by first | exact evb rfl hb | rfl)) rfl ?_
      refine GL.val ((by first | exact rv_orF rfl rfl rfl | exact rv_orT rfl rfl rfl | exact rv_pickOr rfl rfl rfl)) rfl ?_
      refine GL.val (rv_move rfl) rfl ?_
      first | refine GL.skipG rfl rfl ?_ | refine GL.skipU rfl rfl ?_ | refine GL.valT rfl (rv_field fo_25_0 rfl rfl) rfl ?_ | refine GL.valG rfl (fun hb => rv_field fo_25_0 (by first | exact evb rfl hb | rfl) (by first | exact evb rfl hb | rfl)) rfl ?_
      first | refine GL.skipG rfl rfl ?_ | refine GL.skipU rfl rfl ?_ | refine GL.valT rfl (rv_load ag_9 rfl (by first | exact Hd.cell (k := 0) rfl rfl | exact Hd.rowCell (k := 0) rfl (by assumption))) rfl ?_ | refine GL.valG rfl (fun hb => rv_load ag_9 (by first | exact evb rfl hb | rfl) (by first | exact Hd.cell (k := 0) (by first | exact evb rfl hb | rfl) (by first | exact evb rfl hb | rfl) | exact Hd.rowCell (k := 0) (by first | exact evb rfl hb | rfl) (by assumption))) rfl ?_
      first | refine GL.skipG rfl rfl ?_ | refine GL.skipU rfl rfl ?_ | refine GL.valT rfl (rv_move rfl) rfl ?_ | refine GL.valG rfl (fun hb => rv_move (by first | exact evb rfl hb | rfl)) rfl ?_
      first | refine GL.skipG rfl rfl ?_ | refine GL.skipU rfl rfl ?_ | refine GL.stepG rfl (ot_call hb_16 rfl (callOk fun w hh => rcheck_c cn _ _ _ qk w hns rfl) rfl fun _ _ => ?_)
      first | refine GL.skipG rfl rfl ?_ | refine GL.skipU rfl rfl ?_ | refine GL.valT rfl ((by first | exact rv_to (v' := .bool true) (rv_neI rfl rfl) (by simp only [Value.bool.injEq, decide_eq_true_eq, decide_eq_false_iff_not]; first | assumption | omega) | exact rv_to (v' := .bool false) (rv_neI rfl rfl) (by simp only [Value.bool.injEq, decide_eq_true_eq, decide_eq_false_iff_not]; first | assumption | omega))) rfl ?_ | refine GL.valG rfl (fun hb => (by first | exact rv_to (v' := .bool true) (rv_neI (by first | exact evb rfl hb | rfl) (by first | exact evb rfl hb | rfl)) (by simp only [Value.bool.injEq, decide_eq_true_eq, decide_eq_false_iff_not]; first | assumption | omega) | exact rv_to (v' := .bool false) (rv_neI (by first | exact evb rfl hb | rfl) (by first | exact evb rfl hb | rfl)) (by simp only [Value.bool.injEq, decide_eq_true_eq, decide_eq_false_iff_not]; first | assumption | omega))) rfl ?_
      refine GL.val ((by first | exact rv_orF rfl rfl rfl | exact rv_orT rfl rfl rfl | exact rv_pickOr rfl rfl rfl)) rfl ?_
      refine GL.val (rv_move rfl) rfl ?_
      first | refine GL.skipG rfl rfl ?_ | refine GL.skipU rfl rfl ?_ | refine GL.valT rfl (rv_field fo_25_2 rfl rfl) rfl ?_ | refine GL.valG rfl (fun hb => rv_field fo_25_2 (by first | exact evb rfl hb | rfl) (by first | exact evb rfl hb | rfl)) rfl ?_
      first | refine GL.skipG rfl rfl ?_ | refine GL.skipU rfl rfl ?_ | refine GL.valT rfl (rv_load ag_23 rfl (by first | exact Hd.cell (k := 0) rfl rfl | exact Hd.rowCell (k := 0) rfl (by assumption))) rfl ?_ | refine GL.valG rfl (fun hb => rv_load ag_23 (by first | exact evb rfl hb | rfl) (by first | exact Hd.cell (k := 0) (by first | exact evb rfl hb | rfl) (by first | exact evb rfl hb | rfl) | exact Hd.rowCell (k := 0) (by first | exact evb rfl hb | rfl) (by assumption))) rfl ?_
      first | refine GL.skipG rfl rfl ?_ | refine GL.skipU rfl rfl ?_ | refine GL.valT rfl ((by first | exact rv_to (v' := .bool true) (rv_eq64 (b := 18446744073709551615) rfl rfl) (by simp only [Value.bool.injEq, decide_eq_true_eq, decide_eq_false_iff_not]; first | assumption | omega) | exact rv_to (v' := .bool false) (rv_eq64 (b := 18446744073709551615) rfl rfl) (by simp only [Value.bool.injEq, decide_eq_true_eq, decide_eq_false_iff_not]; first | assumption | omega))) rfl ?_ | refine GL.valG rfl (fun hb => (by first | exact rv_to (v' := .bool true) (rv_eq64 (b := 18446744073709551615) (by first | exact evb rfl hb | rfl) (by first | exact evb rfl hb | rfl)) (by simp only [Value.bool.injEq, decide_eq_true_eq, decide_eq_false_iff_not]; first | assumption | omega) | exact rv_to (v' := .bool false) (rv_eq64 (b := 18446744073709551615) (by first | exact evb rfl hb | rfl) (by first | exact evb rfl hb | rfl)) (by simp only [Value.bool.injEq, decide_eq_true_eq, decide_eq_false_iff_not]; first | assumption | omega))) rfl ?_
      refine GL.val ((by first | exact rv_orF rfl rfl rfl | exact rv_orT rfl rfl rfl | exact rv_pickOr rfl rfl rfl)) rfl ?_
      refine GL.nil ?_
      exact GX.cutq () trivial (by repeat (first | exact Sub.nil | refine Sub.cons rfl ?_)) (fun w9 h => by
          exact h)
  refine GX.then ?_
  first | refine GC.condP rfl (fun c36 => ?_) (fun c36 => ?_) | refine GC.cond rfl (fun c36 => ?_) (fun c36 => ?_)
  · skip
    refine GC.seq ?_
    refine GC.reg ?_
    refine GL.step (ot_call hb_9 rfl (callOk fun w hh => hwk w) rfl fun _ _ => ?_)
    refine GL.val (rv_assign rfl) rfl ?_
    refine GL.nil ?_
    refine GX.then ?_
    refine GC.ret ?_
    refine GX.then_ret ?_
    refine GX.ret1 rfl (RR.tmp rfl) ?_
    exact fun w9 h => ⟨(), rfl, by
        have h := h.sel [] rfl rfl
        exact h, trivial⟩
  · obtain ⟨hf1, hf2, hf3, hk, hm⟩ : ¬ 2000 < ck.length ∧ ¬ 2000 < wk.length ∧ ¬ 2000 < qk.length ∧ ¬ chk cn qk ≠ 0 ∧ ¬ cs = 18446744073709551615 := by simpa using c36
    have hci := chk_inv (Decidable.byContradiction hk)
    refine GC.skip ?_
    refine GX.then ?_
    refine GC.seq ?_
    refine GC.reg ?_
    refine GL.val (rv_field fo_25_0 rfl rfl) rfl ?_
    refine GL.val (rv_load ag_9 rfl (by first | exact Hd.cell (k := 0) rfl rfl | exact Hd.rowCell (k := 0) rfl (by assumption))) rfl ?_
    refine GL.val (rv_move rfl) rfl ?_
    refine GL.val (rv_field fo_25_2 rfl rfl) rfl ?_
    refine GL.val (rv_load ag_23 rfl (by first | exact Hd.cell (k := 0) rfl rfl | exact Hd.rowCell (k := 0) rfl (by assumption))) rfl ?_
    refine GL.val (rv_to (v' := .agg (bcell cn wk wA wc cs).toArray) (rv_buildS pl_25 zb_25 rfl rfl rfl) rfl) rfl ?_
    refine GL.val (rv_move rfl) rfl ?_
    refine GL.step (ot_call hb_13 rfl (callOk fun w hh => ask_c cn wk wA wc cs qk qA qc w (hh.rd0n hwr) hwc (by omega) (by omega) (hh.rd0n hqk) hqc (by omega)) rfl fun g45 h45 => ?_)
    have hal := auth_len wk cn (cs + 1) qk
    generalize hau : auth wk cn (cs + 1) qk = au at hal ⊢
    refine GL.step (ot_alloc (zs := [.int .i64 0, .string ByteArray.empty, .slice none 0 0, .int .u8 0, .int .u8 0, .int .u8 0, .int .u8 0, .int .u8 0, .int .u8 0, .int .u8 0, .int .u8 0, .int .u8 0, .int .u8 0, .int .u8 0, .int .u8 0, .int .u8 0, .int .u8 0, .int .u8 0, .int .u8 0, .int .u8 0, .int .u8 0, .int .u8 0, .int .u8 0, .int .u8 0, .int .u8 0, .int .u8 0, .int .u8 0, .int .u8 0, .int .u8 0, .int .u8 0, .int .u8 0, .int .u8 0, .int .u8 0, .int .u8 0, .int .u8 0]) zb_29 rfl rfl fun b7 => ?_)
    refine GL.step (ot_storeA (k := 0) rfl rfl rfl rfl (by exact sz_29) (qc_len hal) rfl qc_one ?_)
    refine GL.nil ?_
    refine GX.then ?_
    refine GC.seq ?_
    refine GC.reg ?_
    refine GL.val (rv_loadAL ag_25 rfl (by first | exact Hd.cellsAll (k := 2) rfl | exact Hd.cells (k := 2) rfl rfl) (by exact sz_25) (by first | (first | exact qc_len hal | (simp only [ws8_len, hal]; done) | (simp only [ws8_len, hal2]; done)) | rfl)) rfl ?_
    refine GL.val (rv_loadAL ag_29 rfl (by first | exact Hd.cellsAll (k := 0) rfl | exact Hd.cells (k := 0) rfl rfl) (by exact sz_29) (by first | (first | exact qc_len hal | (simp only [ws8_len, hal]; done) | (simp only [ws8_len, hal2]; done)) | rfl)) rfl ?_
    refine GL.step (ot_call hb_10 rfl (callOk fun w hh => next_c true cn ck cA cc cs 2 cn qk g45.1 g45.2 au w (hh.rd0n hck) hcc (by omega) hal (by omega) (hh.ro (k := 1) rfl) h45 (by omega)) rfl fun g49 h49 => ?_)
    refine GL.val (rv_move rfl) rfl ?_
    refine GL.val (rv_extract rfl rfl) rfl ?_
    refine GL.val (rv_extract rfl rfl) rfl ?_
    refine GL.step (ot_alloc (zs := [.string ByteArray.empty, .slice none 0 0, .int .u64 0]) zb_25 rfl rfl fun b8 => ?_)
    refine GL.step (ot_store (k := 0) rfl rfl rfl rfl sz_25 rfl rfl (by first | ((simp only [repl, List.set_cons_zero, List.set_cons_succ]) <;> rfl) | rfl) ?_)
    refine GL.val (rv_assign rfl) rfl ?_
    refine GL.nil ?_
    refine GX.then ?_
    refine GC.seq ?_
    refine GC.draw 19 [0, 1, 2, 3, 4] mo_ ?_
    refine GD.pure (i := 0) rfl (fun _ _ => rv_move rfl) (by kernel_rfl) (by repeat (first | exact noPanicPut_body | exact noPanicPut_cut | exact noPanicPut_cutE | refine noPanicPut_then ?_ | refine noPanicPut_blk ?_)) ?_
    refine GD.pure (i := 1) rfl (fun _ _ => rv_field fo_25_0 rfl rfl) (by kernel_rfl) (by repeat (first | exact noPanicPut_body | exact noPanicPut_cut | exact noPanicPut_cutE | refine noPanicPut_then ?_ | refine noPanicPut_blk ?_)) ?_
    refine GD.pure (i := 3) rfl (fun _ _ => rv_field fo_25_2 rfl rfl) (by kernel_rfl) (by repeat (first | exact noPanicPut_body | exact noPanicPut_cut | exact noPanicPut_cutE | refine noPanicPut_then ?_ | refine noPanicPut_blk ?_)) ?_
    refine GD.pure (i := 6) rfl (fun _ _ => rv_move rfl) (by kernel_rfl) (by repeat (first | exact noPanicPut_body | exact noPanicPut_cut | exact noPanicPut_cutE | refine noPanicPut_then ?_ | refine noPanicPut_blk ?_)) ?_
    refine GD.pure (i := 8) rfl (fun _ _ => rv_field fo_25_1 rfl rfl) (by kernel_rfl) (by repeat (first | exact noPanicPut_body | exact noPanicPut_cut | exact noPanicPut_cutE | refine noPanicPut_then ?_ | refine noPanicPut_blk ?_)) ?_
    refine GD.pure (i := 10) rfl (fun _ _ => rv_field fo_25_0 rfl rfl) (by kernel_rfl) (by repeat (first | exact noPanicPut_body | exact noPanicPut_cut | exact noPanicPut_cutE | refine noPanicPut_then ?_ | refine noPanicPut_blk ?_)) ?_
    refine GD.pure (i := 12) rfl (fun _ _ => rv_field fo_25_2 rfl rfl) (by kernel_rfl) (by repeat (first | exact noPanicPut_body | exact noPanicPut_cut | exact noPanicPut_cutE | refine noPanicPut_then ?_ | refine noPanicPut_blk ?_)) ?_
    refine GD.pure (i := 15) rfl (fun _ _ => rv_move rfl) (by kernel_rfl) (by repeat (first | exact noPanicPut_body | exact noPanicPut_cut | exact noPanicPut_cutE | refine noPanicPut_then ?_ | refine noPanicPut_blk ?_)) ?_
    refine GD.read (i := 2) rfl (rv_load ag_9 rfl (by first | exact Hd.cell (k := 4) rfl rfl | exact Hd.rowCell (k := 4) rfl (by assumption))) (by kernel_rfl) (by repeat (first | exact noPanicPut_body | exact noPanicPut_cut | exact noPanicPut_cutE | refine noPanicPut_then ?_ | refine noPanicPut_blk ?_)) ?_
    refine GD.read (i := 4) rfl (rv_load ag_23 rfl (by first | exact Hd.cell (k := 4) rfl rfl | exact Hd.rowCell (k := 4) rfl (by assumption))) (by kernel_rfl) (by repeat (first | exact noPanicPut_body | exact noPanicPut_cut | exact noPanicPut_cutE | refine noPanicPut_then ?_ | refine noPanicPut_blk ?_)) ?_
    refine GD.pure (i := 5) rfl (fun _ _ => rv_add64 (b := 1) rfl rfl) (by kernel_rfl) (by repeat (first | exact noPanicPut_body | exact noPanicPut_cut | exact noPanicPut_cutE | refine noPanicPut_then ?_ | refine noPanicPut_blk ?_)) ?_
    refine GD.read (i := 9) rfl (rv_load ag_22 rfl (by first | exact Hd.cell (k := 4) rfl rfl | exact Hd.rowCell (k := 4) rfl (by assumption))) (by kernel_rfl) (by repeat (first | exact noPanicPut_body | exact noPanicPut_cut | exact noPanicPut_cutE | refine noPanicPut_then ?_ | refine noPanicPut_blk ?_)) ?_
    refine GD.read (i := 11) rfl (rv_load ag_9 rfl (by first | exact Hd.cell (k := 4) rfl rfl | exact Hd.rowCell (k := 4) rfl (by assumption))) (by kernel_rfl) (by repeat (first | exact noPanicPut_body | exact noPanicPut_cut | exact noPanicPut_cutE | refine noPanicPut_then ?_ | refine noPanicPut_blk ?_)) ?_
    refine GD.read (i := 13) rfl (rv_load ag_23 rfl (by first | exact Hd.cell (k := 4) rfl rfl | exact Hd.rowCell (k := 4) rfl (by assumption))) (by kernel_rfl) (by repeat (first | exact noPanicPut_body | exact noPanicPut_cut | exact noPanicPut_cutE | refine noPanicPut_then ?_ | refine noPanicPut_blk ?_)) ?_
    refine GD.pure (i := 14) rfl (fun _ _ => rv_add64 (b := 1) rfl rfl) (by kernel_rfl) (by repeat (first | exact noPanicPut_body | exact noPanicPut_cut | exact noPanicPut_cutE | refine noPanicPut_then ?_ | refine noPanicPut_blk ?_)) ?_
    refine GD.step (i := 7) (by kernel_rfl) rfl (ot_call hb_17 rfl (callOk fun w hh => rauth_b wA _ wc wk cn (cs + 1) qA _ qc qk w (hh.rd0n hwr) rfl hwc (hh.rd0n hqk) rfl hqc (by omega) (by omega) (by omega)) rfl fun _ _ => ⟨.inr fun _ h => h.pk [0, 1, 2, 3, 4], ?_⟩)
    rw [hau]
    refine GD.step (i := 16) (by kernel_rfl) rfl (ot_call hb_17 rfl (callOk fun w hh => rauth_b cA _ cc ck cn (cs + 1) qA _ qc qk w (hh.rd0n hck) rfl hcc (hh.rd0n hqk) rfl hqc (by omega) (by omega) (by omega)) rfl fun _ _ => ⟨.inr fun _ h => h.pk [0, 1, 2, 3, 4], ?_⟩)
    have hal2 := auth_len ck cn (cs + 1) qk
    generalize hau2 : auth ck cn (cs + 1) qk = au2 at hal2 ⊢
    refine GD.pure (i := 17) rfl (fun _ _ => rv_eq24 rfl rfl hal hal2) (by kernel_rfl) (by repeat (first | exact noPanicPut_body | exact noPanicPut_cut | exact noPanicPut_cutE | refine noPanicPut_then ?_ | refine noPanicPut_blk ?_)) ?_
    refine GD.pure (i := 18) rfl (fun _ _ => rv_assign rfl) (by kernel_rfl) (by repeat (first | exact noPanicPut_body | exact noPanicPut_cut | exact noPanicPut_cutE | refine noPanicPut_then ?_ | refine noPanicPut_blk ?_)) ?_
    refine GD.done (by kernel_rfl) ?_
    refine GX.then ?_
    refine GC.seq ?_
    refine GC.cutq (γ := Unit) [] [4, 3, 2, 1, 0] (fun g Lk => (6, .bool true) :: Lk) (fun g Fk => Fk) (fun g => True) rfl rfl ?_ (fun _ _ => ?_)
    · by_cases h : au = au2
      · have hz : nxt true cn ck cs 2 cn qk au = 0 := by rw [nxt_ask, if_neg hk, if_neg hm, hau2, if_neg (fun hh => hh h)]
        rw [hz, decide_eq_true h]
        refine GC.reg ?_
        refine GL.val (rv_move rfl) rfl ?_
        refine GL.val ((by first | exact rv_to (v' := .bool true) (rv_eqI rfl rfl) (congrArg Value.bool (decide_eq_true (by omega))) | exact rv_to (v' := .bool false) (rv_eqI rfl rfl) (congrArg Value.bool (decide_eq_false (by omega))))) rfl ?_
        refine GL.val (rv_move rfl) rfl ?_
        refine GL.val (rv_to (v' := .bool true) (rv_eqB rfl rfl (run_eqBool Try.underlying4)) (by simp)) rfl ?_
        refine GL.val (rv_move rfl) rfl ?_
        first | refine GL.skipG rfl rfl ?_ | refine GL.skipU rfl rfl ?_ | refine GL.valT rfl (rv_move rfl) rfl ?_ | refine GL.valG rfl (fun hb => rv_move (by first | exact evb rfl hb | rfl)) rfl ?_
        first | refine GL.skipG rfl rfl ?_ | refine GL.skipU rfl rfl ?_ | refine GL.valT rfl (rv_move rfl) rfl ?_ | refine GL.valG rfl (fun hb => rv_move (by first | exact evb rfl hb | rfl)) rfl ?_
        first | refine GL.skipG rfl rfl ?_ | refine GL.skipU rfl rfl ?_ | refine GL.valT rfl (rv_move rfl) rfl ?_ | refine GL.valG rfl (fun hb => rv_move (by first | exact evb rfl hb | rfl)) rfl ?_
        first | refine GL.skipG rfl rfl ?_ | refine GL.skipU rfl rfl ?_ | refine GL.valT rfl (rv_to (v' := .bool true) (rv_eqI rfl rfl) (by simp)) rfl ?_ | refine GL.valG rfl (fun hb => rv_to (v' := .bool true) (rv_eqI (by first | exact evb rfl hb | rfl) (by first | exact evb rfl hb | rfl)) (by simp)) rfl ?_
        first | refine GL.skipG rfl rfl ?_ | refine GL.skipU rfl rfl ?_ | refine GL.valT rfl ((by first | exact rv_orF rfl rfl rfl | exact rv_orT rfl rfl rfl | exact rv_pickOr rfl rfl rfl)) rfl ?_ | refine GL.valG rfl (fun hb => (by first | exact rv_orF (by first | exact evb rfl hb | rfl) (by first | exact evb rfl hb | rfl) (by first | exact evb rfl hb | rfl) | exact rv_orT (by first | exact evb rfl hb | rfl) (by first | exact evb rfl hb | rfl) (by first | exact evb rfl hb | rfl) | exact rv_pickOr (by first | exact evb rfl hb | rfl) (by first | exact evb rfl hb | rfl) (by first | exact evb rfl hb | rfl))) rfl ?_
        refine GL.val ((by first | exact rv_andT rfl rfl rfl | exact rv_andF rfl rfl rfl | exact rv_pickAnd rfl rfl rfl)) rfl ?_
        refine GL.val (rv_move rfl) rfl ?_
        first | refine GL.skipG rfl rfl ?_ | refine GL.skipU rfl rfl ?_ | refine GL.stepG rfl (ot_call hb_9 rfl (callOk fun w hh => hwk w) rfl fun _ _ => ?_)
        refine GL.val ((by first | exact rv_andT rfl rfl rfl | exact rv_andF rfl rfl rfl | exact rv_pickAnd rfl rfl rfl)) rfl ?_
        refine GL.val (rv_assign rfl) rfl ?_
        refine GL.nil ?_
        exact GX.cutq () trivial (by repeat (first | exact Sub.nil | refine Sub.cons rfl ?_)) (fun w9 h => by
            exact h)
      · have hz : nxt true cn ck cs 2 cn qk au = 8 := by rw [nxt_ask, if_neg hk, if_neg hm, hau2, if_pos h]
        rw [hz, decide_eq_false h]
        refine GC.reg ?_
        refine GL.val (rv_move rfl) rfl ?_
        refine GL.val ((by first | exact rv_to (v' := .bool true) (rv_eqI rfl rfl) (congrArg Value.bool (decide_eq_true (by omega))) | exact rv_to (v' := .bool false) (rv_eqI rfl rfl) (congrArg Value.bool (decide_eq_false (by omega))))) rfl ?_
        refine GL.val (rv_move rfl) rfl ?_
        refine GL.val (rv_to (v' := .bool true) (rv_eqB rfl rfl (run_eqBool Try.underlying4)) (by simp)) rfl ?_
        refine GL.val (rv_move rfl) rfl ?_
        first | refine GL.skipG rfl rfl ?_ | refine GL.skipU rfl rfl ?_ | refine GL.valT rfl (rv_move rfl) rfl ?_ | refine GL.valG rfl (fun hb => rv_move (by first | exact evb rfl hb | rfl)) rfl ?_
        first | refine GL.skipG rfl rfl ?_ | refine GL.skipU rfl rfl ?_ | refine GL.valT rfl (rv_move rfl) rfl ?_ | refine GL.valG rfl (fun hb => rv_move (by first | exact evb rfl hb | rfl)) rfl ?_
        first | refine GL.skipG rfl rfl ?_ | refine GL.skipU rfl rfl ?_ | refine GL.valT rfl (rv_move rfl) rfl ?_ | refine GL.valG rfl (fun hb => rv_move (by first | exact evb rfl hb | rfl)) rfl ?_
        first | refine GL.skipG rfl rfl ?_ | refine GL.skipU rfl rfl ?_ | refine GL.valT rfl (rv_to (v' := .bool true) (rv_eqI rfl rfl) (by simp)) rfl ?_ | refine GL.valG rfl (fun hb => rv_to (v' := .bool true) (rv_eqI (by first | exact evb rfl hb | rfl) (by first | exact evb rfl hb | rfl)) (by simp)) rfl ?_
        first | refine GL.skipG rfl rfl ?_ | refine GL.skipU rfl rfl ?_ | refine GL.valT rfl ((by first | exact rv_orF rfl rfl rfl | exact rv_orT rfl rfl rfl | exact rv_pickOr rfl rfl rfl)) rfl ?_ | refine GL.valG rfl (fun hb => (by first | exact rv_orF (by first | exact evb rfl hb | rfl) (by first | exact evb rfl hb | rfl) (by first | exact evb rfl hb | rfl) | exact rv_orT (by first | exact evb rfl hb | rfl) (by first | exact evb rfl hb | rfl) (by first | exact evb rfl hb | rfl) | exact rv_pickOr (by first | exact evb rfl hb | rfl) (by first | exact evb rfl hb | rfl) (by first | exact evb rfl hb | rfl))) rfl ?_
        refine GL.val ((by first | exact rv_andT rfl rfl rfl | exact rv_andF rfl rfl rfl | exact rv_pickAnd rfl rfl rfl)) rfl ?_
        refine GL.val (rv_move rfl) rfl ?_
        first | refine GL.skipG rfl rfl ?_ | refine GL.skipU rfl rfl ?_ | refine GL.stepG rfl (ot_call hb_9 rfl (callOk fun w hh => hwk w) rfl fun _ _ => ?_)
        refine GL.val ((by first | exact rv_andT rfl rfl rfl | exact rv_andF rfl rfl rfl | exact rv_pickAnd rfl rfl rfl)) rfl ?_
        refine GL.val (rv_assign rfl) rfl ?_
        refine GL.nil ?_
        exact GX.cutq () trivial (by repeat (first | exact Sub.nil | refine Sub.cons rfl ?_)) (fun w9 h => by
            exact h)
    refine GX.then ?_
    refine GC.ret ?_
    refine GX.ret1 rfl (RR.tmp rfl) ?_
    exact fun w9 h => ⟨(), rfl, by
        have h := h.sel [] rfl rfl
        exact h, trivial⟩
set_option maxRecDepth 100000 in
set_option maxHeartbeats 1000000 in
theorem once_law (cn : ByteArray) (ck : Sh.B) (cA : Option Addr) (cc : Nat) (cs : UInt64) (qk : Sh.B) (qA : Option Addr) (qc : Nat) (w : World) (hck : SlR w cA (byts ck)) (hcc : ck.length ≤ cc) (hns : cn.size < 4611686018427387904) (hqk : SlR w qA (byts qk)) (hqc : qk.length ≤ qc) (hwk : ∀ w : World, Calls Try.prog 9 [].toArray w fun e w' => ∃ _g : Unit, e = .returned (.bool true) ∧ St noB w w' [] ∧ True) : Calls Try.prog 6 [.agg (bcell cn ck cA cc cs).toArray, .slice qA qk.length qc].toArray w fun e w' => ∃ _g : Unit, e = .returned (.bool true) ∧ St noB w w' [] ∧ True := by
  refine GC.calls Try.func6 rfl rfl (St.begin _) ?_
  refine GC.seq ?_
  refine GC.reg ?_
  refine GL.step (ot_box rfl rfl rfl fun b2 => ?_)
  refine GL.val (rv_assign rfl) rfl ?_
  refine GL.nil ?_
  refine GX.then ?_
  refine GC.seq ?_
  refine GC.seq ?_
  refine GC.cutq (γ := Unit) [2, 1] [0] (fun g Lk => (29, .bool (decide ((2000 < ck.length) ∨ (2000 < qk.length) ∨ (chk cn qk ≠ 0) ∨ (9223372036854775808 < cs.toNat)))) :: Lk) (fun g Fk => Fk) (fun g => True) rfl rfl ?_ (fun _ _ => ?_)
  · rcases (or_first4 : (2000 < ck.length) ∨ (¬ (2000 < ck.length) ∧ (2000 < qk.length)) ∨ (¬ (2000 < ck.length) ∧ ¬ (2000 < qk.length) ∧ (chk cn qk ≠ 0)) ∨ (¬ (2000 < ck.length) ∧ ¬ (2000 < qk.length) ∧ ¬ (chk cn qk ≠ 0) ∧ (9223372036854775808 < cs.toNat)) ∨ (¬ (2000 < ck.length) ∧ ¬ (2000 < qk.length) ∧ ¬ (chk cn qk ≠ 0) ∧ ¬ (9223372036854775808 < cs.toNat))) with p1 | ⟨p1, p2⟩ | ⟨p1, p2, p3⟩ | ⟨p1, p2, p3, p4⟩ | ⟨p1, p2, p3, p4⟩
    · have hb1 : decide (ck.length ≤ 2000) = false := decide_eq_false (by omega)
      have hb2 : decide (qk.length ≤ 2000) = decide (qk.length ≤ 2000) := rfl
      rw [show decide ((2000 < ck.length) ∨ (2000 < qk.length) ∨ (chk cn qk ≠ 0) ∨ (9223372036854775808 < cs.toNat)) = true from decide_eq_true (.inl p1)]
      refine GC.reg ?_
      refine GL.val (rv_field fo_25_1 rfl rfl) rfl ?_
      refine GL.val (rv_load ag_22 rfl (by first | exact Hd.cell (k := 0) rfl rfl | exact Hd.rowCell (k := 0) rfl (by assumption))) rfl ?_
      refine GL.step (ot_call hb_8 rfl (callOk fun w hh => few2_b _ cA _ cc w hb1) rfl fun _ _ => ?_)
      refine GL.val (rv_not rfl) rfl ?_
      refine GL.val (rv_move rfl) rfl ?_
      first | refine GL.skipG rfl rfl ?_ | refine GL.skipU rfl rfl ?_ | refine GL.valT rfl (rv_move rfl) rfl ?_ | refine GL.valG rfl (fun hb => rv_move (by first | exact evb rfl hb | rfl)) rfl ?_
      first | refine GL.skipG rfl rfl ?_ | refine GL.skipU rfl rfl ?_ | refine GL.stepG rfl (ot_call hb_8 rfl (callOk fun w hh => few2_b _ qA _ qc w hb2) rfl fun _ _ => ?_)
      first | refine GL.skipG rfl rfl ?_ | refine GL.skipU rfl rfl ?_ | refine GL.valT rfl (rv_not rfl) rfl ?_ | refine GL.valG rfl (fun hb => rv_not (by first | exact evb rfl hb | rfl)) rfl ?_
      refine GL.val ((by first | exact rv_orF rfl rfl rfl | exact rv_orT rfl rfl rfl | exact rv_pickOr rfl rfl rfl)) rfl ?_
      refine GL.val (rv_move rfl) rfl ?_
      first | refine GL.skipG rfl rfl ?_ | refine GL.skipU rfl rfl ?_ | refine GL.valT rfl (rv_field fo_25_0 rfl rfl) rfl ?_ | refine GL.valG rfl (fun hb => rv_field fo_25_0 (by first | exact evb rfl hb | rfl) (by first | exact evb rfl hb | rfl)) rfl ?_
      first | refine GL.skipG rfl rfl ?_ | refine GL.skipU rfl rfl ?_ | refine GL.valT rfl (rv_load ag_9 rfl (by first | exact Hd.cell (k := 0) rfl rfl | exact Hd.rowCell (k := 0) rfl (by assumption))) rfl ?_ | refine GL.valG rfl (fun hb => rv_load ag_9 (by first | exact evb rfl hb | rfl) (by first | exact Hd.cell (k := 0) (by first | exact evb rfl hb | rfl) (by first | exact evb rfl hb | rfl) | exact Hd.rowCell (k := 0) (by first | exact evb rfl hb | rfl) (by assumption))) rfl ?_
      first | refine GL.skipG rfl rfl ?_ | refine GL.skipU rfl rfl ?_ | refine GL.valT rfl (rv_move rfl) rfl ?_ | refine GL.valG rfl (fun hb => rv_move (by first | exact evb rfl hb | rfl)) rfl ?_
      first | refine GL.skipG rfl rfl ?_ | refine GL.skipU rfl rfl ?_ | refine GL.stepG rfl (ot_call hb_16 rfl (callOk fun w hh => rcheck_c cn _ _ _ qk w hns rfl) rfl fun _ _ => ?_)
      first | refine GL.skipG rfl rfl ?_ | refine GL.skipU rfl rfl ?_ | refine GL.valT rfl ((by first | exact rv_to (v' := .bool true) (rv_neI rfl rfl) (by simp only [Value.bool.injEq, decide_eq_true_eq, decide_eq_false_iff_not]; first | assumption | omega) | exact rv_to (v' := .bool false) (rv_neI rfl rfl) (by simp only [Value.bool.injEq, decide_eq_true_eq, decide_eq_false_iff_not]; first | assumption | omega))) rfl ?_ | refine GL.valG rfl (fun hb => (by first | exact rv_to (v' := .bool true) (rv_neI (by first | exact evb rfl hb | rfl) (by first | exact evb rfl hb | rfl)) (by simp only [Value.bool.injEq, decide_eq_true_eq, decide_eq_false_iff_not]; first | assumption | omega) | exact rv_to (v' := .bool false) (rv_neI (by first | exact evb rfl hb | rfl) (by first | exact evb rfl hb | rfl)) (by simp only [Value.bool.injEq, decide_eq_true_eq, decide_eq_false_iff_not]; first | assumption | omega))) rfl ?_
      refine GL.val ((by first | exact rv_orF rfl rfl rfl | exact rv_orT rfl rfl rfl | exact rv_pickOr rfl rfl rfl)) rfl ?_
      refine GL.val (rv_move rfl) rfl ?_
      first | refine GL.skipG rfl rfl ?_ | refine GL.skipU rfl rfl ?_ | refine GL.valT rfl (rv_field fo_25_2 rfl rfl) rfl ?_ | refine GL.valG rfl (fun hb => rv_field fo_25_2 (by first | exact evb rfl hb | rfl) (by first | exact evb rfl hb | rfl)) rfl ?_
      first | refine GL.skipG rfl rfl ?_ | refine GL.skipU rfl rfl ?_ | refine GL.valT rfl (rv_load ag_23 rfl (by first | exact Hd.cell (k := 0) rfl rfl | exact Hd.rowCell (k := 0) rfl (by assumption))) rfl ?_ | refine GL.valG rfl (fun hb => rv_load ag_23 (by first | exact evb rfl hb | rfl) (by first | exact Hd.cell (k := 0) (by first | exact evb rfl hb | rfl) (by first | exact evb rfl hb | rfl) | exact Hd.rowCell (k := 0) (by first | exact evb rfl hb | rfl) (by assumption))) rfl ?_
      first | refine GL.skipG rfl rfl ?_ | refine GL.skipU rfl rfl ?_ | refine GL.valT rfl ((by first | exact rv_to (v' := .bool true) (rv_gtr rfl rfl) (by simp only [Value.bool.injEq, decide_eq_true_eq, decide_eq_false_iff_not]; omega) | exact rv_to (v' := .bool false) (rv_gtr rfl rfl) (by simp only [Value.bool.injEq, decide_eq_true_eq, decide_eq_false_iff_not]; omega))) rfl ?_ | refine GL.valG rfl (fun hb => (by first | exact rv_to (v' := .bool true) (rv_gtr (by first | exact evb rfl hb | rfl) (by first | exact evb rfl hb | rfl)) (by simp only [Value.bool.injEq, decide_eq_true_eq, decide_eq_false_iff_not]; omega) | exact rv_to (v' := .bool false) (rv_gtr (by first | exact evb rfl hb | rfl) (by first | exact evb rfl hb | rfl)) (by simp only [Value.bool.injEq, decide_eq_true_eq, decide_eq_false_iff_not]; omega))) rfl ?_
      refine GL.val ((by first | exact rv_orF rfl rfl rfl | exact rv_orT rfl rfl rfl | exact rv_pickOr rfl rfl rfl)) rfl ?_
      refine GL.nil ?_
      exact GX.cutq () trivial (by repeat (first | exact Sub.nil | refine Sub.cons rfl ?_)) (fun w9 h => by
          exact h)
    · have hb1 : decide (ck.length ≤ 2000) = true := decide_eq_true (by omega)
      have hb2 : decide (qk.length ≤ 2000) = false := decide_eq_false (by omega)
      rw [show decide ((2000 < ck.length) ∨ (2000 < qk.length) ∨ (chk cn qk ≠ 0) ∨ (9223372036854775808 < cs.toNat)) = true from decide_eq_true (.inr (.inl p2))]
      refine GC.reg ?_
      refine GL.val (rv_field fo_25_1 rfl rfl) rfl ?_
      refine GL.val (rv_load ag_22 rfl (by first | exact Hd.cell (k := 0) rfl rfl | exact Hd.rowCell (k := 0) rfl (by assumption))) rfl ?_
      refine GL.step (ot_call hb_8 rfl (callOk fun w hh => few2_b _ cA _ cc w hb1) rfl fun _ _ => ?_)
      refine GL.val (rv_not rfl) rfl ?_
      refine GL.val (rv_move rfl) rfl ?_
      first | refine GL.skipG rfl rfl ?_ | refine GL.skipU rfl rfl ?_ | refine GL.valT rfl (rv_move rfl) rfl ?_ | refine GL.valG rfl (fun hb => rv_move (by first | exact evb rfl hb | rfl)) rfl ?_
      first | refine GL.skipG rfl rfl ?_ | refine GL.skipU rfl rfl ?_ | refine GL.stepG rfl (ot_call hb_8 rfl (callOk fun w hh => few2_b _ qA _ qc w hb2) rfl fun _ _ => ?_)
      first | refine GL.skipG rfl rfl ?_ | refine GL.skipU rfl rfl ?_ | refine GL.valT rfl (rv_not rfl) rfl ?_ | refine GL.valG rfl (fun hb => rv_not (by first | exact evb rfl hb | rfl)) rfl ?_
      refine GL.val ((by first | exact rv_orF rfl rfl rfl | exact rv_orT rfl rfl rfl | exact rv_pickOr rfl rfl rfl)) rfl ?_
      refine GL.val (rv_move rfl) rfl ?_
      first | refine GL.skipG rfl rfl ?_ | refine GL.skipU rfl rfl ?_ | refine GL.valT rfl (rv_field fo_25_0 rfl rfl) rfl ?_ | refine GL.valG rfl (fun hb => rv_field fo_25_0 (by first | exact evb rfl hb | rfl) (by first | exact evb rfl hb | rfl)) rfl ?_
      first | refine GL.skipG rfl rfl ?_ | refine GL.skipU rfl rfl ?_ | refine GL.valT rfl (rv_load ag_9 rfl (by first | exact Hd.cell (k := 0) rfl rfl | exact Hd.rowCell (k := 0) rfl (by assumption))) rfl ?_ | refine GL.valG rfl (fun hb => rv_load ag_9 (by first | exact evb rfl hb | rfl) (by first | exact Hd.cell (k := 0) (by first | exact evb rfl hb | rfl) (by first | exact evb rfl hb | rfl) | exact Hd.rowCell (k := 0) (by first | exact evb rfl hb | rfl) (by assumption))) rfl ?_
      first | refine GL.skipG rfl rfl ?_ | refine GL.skipU rfl rfl ?_ | refine GL.valT rfl (rv_move rfl) rfl ?_ | refine GL.valG rfl (fun hb => rv_move (by first | exact evb rfl hb | rfl)) rfl ?_
      first | refine GL.skipG rfl rfl ?_ | refine GL.skipU rfl rfl ?_ | refine GL.stepG rfl (ot_call hb_16 rfl (callOk fun w hh => rcheck_c cn _ _ _ qk w hns rfl) rfl fun _ _ => ?_)
      first | refine GL.skipG rfl rfl ?_ | refine GL.skipU rfl rfl ?_ | refine GL.valT rfl ((by first | exact rv_to (v' := .bool true) (rv_neI rfl rfl) (by simp only [Value.bool.injEq, decide_eq_true_eq, decide_eq_false_iff_not]; first | assumption | omega) | exact rv_to (v' := .bool false) (rv_neI rfl rfl) (by simp only [Value.bool.injEq, decide_eq_true_eq, decide_eq_false_iff_not]; first | assumption | omega))) rfl ?_ | refine GL.valG rfl (fun hb => (by first | exact rv_to (v' := .bool true) (rv_neI (by first | exact evb rfl hb | rfl) (by first | exact evb rfl hb | rfl)) (by simp only [Value.bool.injEq, decide_eq_true_eq, decide_eq_false_iff_not]; first | assumption | omega) | exact rv_to (v' := .bool false) (rv_neI (by first | exact evb rfl hb | rfl) (by first | exact evb rfl hb | rfl)) (by simp only [Value.bool.injEq, decide_eq_true_eq, decide_eq_false_iff_not]; first | assumption | omega))) rfl ?_
      refine GL.val ((by first | exact rv_orF rfl rfl rfl | exact rv_orT rfl rfl rfl | exact rv_pickOr rfl rfl rfl)) rfl ?_
      refine GL.val (rv_move rfl) rfl ?_
      first | refine GL.skipG rfl rfl ?_ | refine GL.skipU rfl rfl ?_ | refine GL.valT rfl (rv_field fo_25_2 rfl rfl) rfl ?_ | refine GL.valG rfl (fun hb => rv_field fo_25_2 (by first | exact evb rfl hb | rfl) (by first | exact evb rfl hb | rfl)) rfl ?_
      first | refine GL.skipG rfl rfl ?_ | refine GL.skipU rfl rfl ?_ | refine GL.valT rfl (rv_load ag_23 rfl (by first | exact Hd.cell (k := 0) rfl rfl | exact Hd.rowCell (k := 0) rfl (by assumption))) rfl ?_ | refine GL.valG rfl (fun hb => rv_load ag_23 (by first | exact evb rfl hb | rfl) (by first | exact Hd.cell (k := 0) (by first | exact evb rfl hb | rfl) (by first | exact evb rfl hb | rfl) | exact Hd.rowCell (k := 0) (by first | exact evb rfl hb | rfl) (by assumption))) rfl ?_
      first | refine GL.skipG rfl rfl ?_ | refine GL.skipU rfl rfl ?_ | refine GL.valT rfl ((by first | exact rv_to (v' := .bool true) (rv_gtr rfl rfl) (by simp only [Value.bool.injEq, decide_eq_true_eq, decide_eq_false_iff_not]; omega) | exact rv_to (v' := .bool false) (rv_gtr rfl rfl) (by simp only [Value.bool.injEq, decide_eq_true_eq, decide_eq_false_iff_not]; omega))) rfl ?_ | refine GL.valG rfl (fun hb => (by first | exact rv_to (v' := .bool true) (rv_gtr (by first | exact evb rfl hb | rfl) (by first | exact evb rfl hb | rfl)) (by simp only [Value.bool.injEq, decide_eq_true_eq, decide_eq_false_iff_not]; omega) | exact rv_to (v' := .bool false) (rv_gtr (by first | exact evb rfl hb | rfl) (by first | exact evb rfl hb | rfl)) (by simp only [Value.bool.injEq, decide_eq_true_eq, decide_eq_false_iff_not]; omega))) rfl ?_
      refine GL.val ((by first | exact rv_orF rfl rfl rfl | exact rv_orT rfl rfl rfl | exact rv_pickOr rfl rfl rfl)) rfl ?_
      refine GL.nil ?_
      exact GX.cutq () trivial (by repeat (first | exact Sub.nil | refine Sub.cons rfl ?_)) (fun w9 h => by
          exact h)
    · have hb1 : decide (ck.length ≤ 2000) = true := decide_eq_true (by omega)
      have hb2 : decide (qk.length ≤ 2000) = true := decide_eq_true (by omega)
      rw [show decide ((2000 < ck.length) ∨ (2000 < qk.length) ∨ (chk cn qk ≠ 0) ∨ (9223372036854775808 < cs.toNat)) = true from decide_eq_true (.inr (.inr (.inl p3)))]
      refine GC.reg ?_
      refine GL.val (rv_field fo_25_1 rfl rfl) rfl ?_
      refine GL.val (rv_load ag_22 rfl (by first | exact Hd.cell (k := 0) rfl rfl | exact Hd.rowCell (k := 0) rfl (by assumption))) rfl ?_
      refine GL.step (ot_call hb_8 rfl (callOk fun w hh => few2_b _ cA _ cc w hb1) rfl fun _ _ => ?_)
      refine GL.val (rv_not rfl) rfl ?_
      refine GL.val (rv_move rfl) rfl ?_
      first | refine GL.skipG rfl rfl ?_ | refine GL.skipU rfl rfl ?_ | refine GL.valT rfl (rv_move rfl) rfl ?_ | refine GL.valG rfl (fun hb => rv_move (by first | exact evb rfl hb | rfl)) rfl ?_
      first | refine GL.skipG rfl rfl ?_ | refine GL.skipU rfl rfl ?_ | refine GL.stepG rfl (ot_call hb_8 rfl (callOk fun w hh => few2_b _ qA _ qc w hb2) rfl fun _ _ => ?_)
      first | refine GL.skipG rfl rfl ?_ | refine GL.skipU rfl rfl ?_ | refine GL.valT rfl (rv_not rfl) rfl ?_ | refine GL.valG rfl (fun hb => rv_not (by first | exact evb rfl hb | rfl)) rfl ?_
      refine GL.val ((by first | exact rv_orF rfl rfl rfl | exact rv_orT rfl rfl rfl | exact rv_pickOr rfl rfl rfl)) rfl ?_
      refine GL.val (rv_move rfl) rfl ?_
      first | refine GL.skipG rfl rfl ?_ | refine GL.skipU rfl rfl ?_ | refine GL.valT rfl (rv_field fo_25_0 rfl rfl) rfl ?_ | refine GL.valG rfl (fun hb => rv_field fo_25_0 (by first | exact evb rfl hb | rfl) (by first | exact evb rfl hb | rfl)) rfl ?_
      first | refine GL.skipG rfl rfl ?_ | refine GL.skipU rfl rfl ?_ | refine GL.valT rfl (rv_load ag_9 rfl (by first | exact Hd.cell (k := 0) rfl rfl | exact Hd.rowCell (k := 0) rfl (by assumption))) rfl ?_ | refine GL.valG rfl (fun hb => rv_load ag_9 (by first | exact evb rfl hb | rfl) (by first | exact Hd.cell (k := 0) (by first | exact evb rfl hb | rfl) (by first | exact evb rfl hb | rfl) | exact Hd.rowCell (k := 0) (by first | exact evb rfl hb | rfl) (by assumption))) rfl ?_
      first | refine GL.skipG rfl rfl ?_ | refine GL.skipU rfl rfl ?_ | refine GL.valT rfl (rv_move rfl) rfl ?_ | refine GL.valG rfl (fun hb => rv_move (by first | exact evb rfl hb | rfl)) rfl ?_
      first | refine GL.skipG rfl rfl ?_ | refine GL.skipU rfl rfl ?_ | refine GL.stepG rfl (ot_call hb_16 rfl (callOk fun w hh => rcheck_c cn _ _ _ qk w hns rfl) rfl fun _ _ => ?_)
      first | refine GL.skipG rfl rfl ?_ | refine GL.skipU rfl rfl ?_ | refine GL.valT rfl ((by first | exact rv_to (v' := .bool true) (rv_neI rfl rfl) (by simp only [Value.bool.injEq, decide_eq_true_eq, decide_eq_false_iff_not]; first | assumption | omega) | exact rv_to (v' := .bool false) (rv_neI rfl rfl) (by simp only [Value.bool.injEq, decide_eq_true_eq, decide_eq_false_iff_not]; first | assumption | omega))) rfl ?_ | refine GL.valG rfl (fun hb => (by first | exact rv_to (v' := .bool true) (rv_neI (by first | exact evb rfl hb | rfl) (by first | exact evb rfl hb | rfl)) (by simp only [Value.bool.injEq, decide_eq_true_eq, decide_eq_false_iff_not]; first | assumption | omega) | exact rv_to (v' := .bool false) (rv_neI (by first | exact evb rfl hb | rfl) (by first | exact evb rfl hb | rfl)) (by simp only [Value.bool.injEq, decide_eq_true_eq, decide_eq_false_iff_not]; first | assumption | omega))) rfl ?_
      refine GL.val ((by first | exact rv_orF rfl rfl rfl | exact rv_orT rfl rfl rfl | exact rv_pickOr rfl rfl rfl)) rfl ?_
      refine GL.val (rv_move rfl) rfl ?_
      first | refine GL.skipG rfl rfl ?_ | refine GL.skipU rfl rfl ?_ | refine GL.valT rfl (rv_field fo_25_2 rfl rfl) rfl ?_ | refine GL.valG rfl (fun hb => rv_field fo_25_2 (by first | exact evb rfl hb | rfl) (by first | exact evb rfl hb | rfl)) rfl ?_
      first | refine GL.skipG rfl rfl ?_ | refine GL.skipU rfl rfl ?_ | refine GL.valT rfl (rv_load ag_23 rfl (by first | exact Hd.cell (k := 0) rfl rfl | exact Hd.rowCell (k := 0) rfl (by assumption))) rfl ?_ | refine GL.valG rfl (fun hb => rv_load ag_23 (by first | exact evb rfl hb | rfl) (by first | exact Hd.cell (k := 0) (by first | exact evb rfl hb | rfl) (by first | exact evb rfl hb | rfl) | exact Hd.rowCell (k := 0) (by first | exact evb rfl hb | rfl) (by assumption))) rfl ?_
      first | refine GL.skipG rfl rfl ?_ | refine GL.skipU rfl rfl ?_ | refine GL.valT rfl ((by first | exact rv_to (v' := .bool true) (rv_gtr rfl rfl) (by simp only [Value.bool.injEq, decide_eq_true_eq, decide_eq_false_iff_not]; omega) | exact rv_to (v' := .bool false) (rv_gtr rfl rfl) (by simp only [Value.bool.injEq, decide_eq_true_eq, decide_eq_false_iff_not]; omega))) rfl ?_ | refine GL.valG rfl (fun hb => (by first | exact rv_to (v' := .bool true) (rv_gtr (by first | exact evb rfl hb | rfl) (by first | exact evb rfl hb | rfl)) (by simp only [Value.bool.injEq, decide_eq_true_eq, decide_eq_false_iff_not]; omega) | exact rv_to (v' := .bool false) (rv_gtr (by first | exact evb rfl hb | rfl) (by first | exact evb rfl hb | rfl)) (by simp only [Value.bool.injEq, decide_eq_true_eq, decide_eq_false_iff_not]; omega))) rfl ?_
      refine GL.val ((by first | exact rv_orF rfl rfl rfl | exact rv_orT rfl rfl rfl | exact rv_pickOr rfl rfl rfl)) rfl ?_
      refine GL.nil ?_
      exact GX.cutq () trivial (by repeat (first | exact Sub.nil | refine Sub.cons rfl ?_)) (fun w9 h => by
          exact h)
    · have hb1 : decide (ck.length ≤ 2000) = true := decide_eq_true (by omega)
      have hb2 : decide (qk.length ≤ 2000) = true := decide_eq_true (by omega)
      rw [show decide ((2000 < ck.length) ∨ (2000 < qk.length) ∨ (chk cn qk ≠ 0) ∨ (9223372036854775808 < cs.toNat)) = true from decide_eq_true (.inr (.inr (.inr (p4))))]
      refine GC.reg ?_
      refine GL.val (rv_field fo_25_1 rfl rfl) rfl ?_
      refine GL.val (rv_load ag_22 rfl (by first | exact Hd.cell (k := 0) rfl rfl | exact Hd.rowCell (k := 0) rfl (by assumption))) rfl ?_
      refine GL.step (ot_call hb_8 rfl (callOk fun w hh => few2_b _ cA _ cc w hb1) rfl fun _ _ => ?_)
      refine GL.val (rv_not rfl) rfl ?_
      refine GL.val (rv_move rfl) rfl ?_
      first | refine GL.skipG rfl rfl ?_ | refine GL.skipU rfl rfl ?_ | refine GL.valT rfl (rv_move rfl) rfl ?_ | refine GL.valG rfl (fun hb => rv_move (by first | exact evb rfl hb | rfl)) rfl ?_
      first | refine GL.skipG rfl rfl ?_ | refine GL.skipU rfl rfl ?_ | refine GL.stepG rfl (ot_call hb_8 rfl (callOk fun w hh => few2_b _ qA _ qc w hb2) rfl fun _ _ => ?_)
      first | refine GL.skipG rfl rfl ?_ | refine GL.skipU rfl rfl ?_ | refine GL.valT rfl (rv_not rfl) rfl ?_ | refine GL.valG rfl (fun hb => rv_not (by first | exact evb rfl hb | rfl)) rfl ?_
      refine GL.val ((by first | exact rv_orF rfl rfl rfl | exact rv_orT rfl rfl rfl | exact rv_pickOr rfl rfl rfl)) rfl ?_
      refine GL.val (rv_move rfl) rfl ?_
      first | refine GL.skipG rfl rfl ?_ | refine GL.skipU rfl rfl ?_ | refine GL.valT rfl (rv_field fo_25_0 rfl rfl) rfl ?_ | refine GL.valG rfl (fun hb => rv_field fo_25_0 (by first | exact evb rfl hb | rfl) (by first | exact evb rfl hb | rfl)) rfl ?_
      first | refine GL.skipG rfl rfl ?_ | refine GL.skipU rfl rfl ?_ | refine GL.valT rfl (rv_load ag_9 rfl (by first | exact Hd.cell (k := 0) rfl rfl | exact Hd.rowCell (k := 0) rfl (by assumption))) rfl ?_ | refine GL.valG rfl (fun hb => rv_load ag_9 (by first | exact evb rfl hb | rfl) (by first | exact Hd.cell (k := 0) (by first | exact evb rfl hb | rfl) (by first | exact evb rfl hb | rfl) | exact Hd.rowCell (k := 0) (by first | exact evb rfl hb | rfl) (by assumption))) rfl ?_
      first | refine GL.skipG rfl rfl ?_ | refine GL.skipU rfl rfl ?_ | refine GL.valT rfl (rv_move rfl) rfl ?_ | refine GL.valG rfl (fun hb => rv_move (by first | exact evb rfl hb | rfl)) rfl ?_
      first | refine GL.skipG rfl rfl ?_ | refine GL.skipU rfl rfl ?_ | refine GL.stepG rfl (ot_call hb_16 rfl (callOk fun w hh => rcheck_c cn _ _ _ qk w hns rfl) rfl fun _ _ => ?_)
      first | refine GL.skipG rfl rfl ?_ | refine GL.skipU rfl rfl ?_ | refine GL.valT rfl ((by first | exact rv_to (v' := .bool true) (rv_neI rfl rfl) (by simp only [Value.bool.injEq, decide_eq_true_eq, decide_eq_false_iff_not]; first | assumption | omega) | exact rv_to (v' := .bool false) (rv_neI rfl rfl) (by simp only [Value.bool.injEq, decide_eq_true_eq, decide_eq_false_iff_not]; first | assumption | omega))) rfl ?_ | refine GL.valG rfl (fun hb => (by first | exact rv_to (v' := .bool true) (rv_neI (by first | exact evb rfl hb | rfl) (by first | exact evb rfl hb | rfl)) (by simp only [Value.bool.injEq, decide_eq_true_eq, decide_eq_false_iff_not]; first | assumption | omega) | exact rv_to (v' := .bool false) (rv_neI (by first | exact evb rfl hb | rfl) (by first | exact evb rfl hb | rfl)) (by simp only [Value.bool.injEq, decide_eq_true_eq, decide_eq_false_iff_not]; first | assumption | omega))) rfl ?_
      refine GL.val ((by first | exact rv_orF rfl rfl rfl | exact rv_orT rfl rfl rfl | exact rv_pickOr rfl rfl rfl)) rfl ?_
      refine GL.val (rv_move rfl) rfl ?_
      first | refine GL.skipG rfl rfl ?_ | refine GL.skipU rfl rfl ?_ | refine GL.valT rfl (rv_field fo_25_2 rfl rfl) rfl ?_ | refine GL.valG rfl (fun hb => rv_field fo_25_2 (by first | exact evb rfl hb | rfl) (by first | exact evb rfl hb | rfl)) rfl ?_
      first | refine GL.skipG rfl rfl ?_ | refine GL.skipU rfl rfl ?_ | refine GL.valT rfl (rv_load ag_23 rfl (by first | exact Hd.cell (k := 0) rfl rfl | exact Hd.rowCell (k := 0) rfl (by assumption))) rfl ?_ | refine GL.valG rfl (fun hb => rv_load ag_23 (by first | exact evb rfl hb | rfl) (by first | exact Hd.cell (k := 0) (by first | exact evb rfl hb | rfl) (by first | exact evb rfl hb | rfl) | exact Hd.rowCell (k := 0) (by first | exact evb rfl hb | rfl) (by assumption))) rfl ?_
      first | refine GL.skipG rfl rfl ?_ | refine GL.skipU rfl rfl ?_ | refine GL.valT rfl ((by first | exact rv_to (v' := .bool true) (rv_gtr rfl rfl) (by simp only [Value.bool.injEq, decide_eq_true_eq, decide_eq_false_iff_not]; omega) | exact rv_to (v' := .bool false) (rv_gtr rfl rfl) (by simp only [Value.bool.injEq, decide_eq_true_eq, decide_eq_false_iff_not]; omega))) rfl ?_ | refine GL.valG rfl (fun hb => (by first | exact rv_to (v' := .bool true) (rv_gtr (by first | exact evb rfl hb | rfl) (by first | exact evb rfl hb | rfl)) (by simp only [Value.bool.injEq, decide_eq_true_eq, decide_eq_false_iff_not]; omega) | exact rv_to (v' := .bool false) (rv_gtr (by first | exact evb rfl hb | rfl) (by first | exact evb rfl hb | rfl)) (by simp only [Value.bool.injEq, decide_eq_true_eq, decide_eq_false_iff_not]; omega))) rfl ?_
      refine GL.val ((by first | exact rv_orF rfl rfl rfl | exact rv_orT rfl rfl rfl | exact rv_pickOr rfl rfl rfl)) rfl ?_
      refine GL.nil ?_
      exact GX.cutq () trivial (by repeat (first | exact Sub.nil | refine Sub.cons rfl ?_)) (fun w9 h => by
          exact h)
    · have hb1 : decide (ck.length ≤ 2000) = true := decide_eq_true (by omega)
      have hb2 : decide (qk.length ≤ 2000) = true := decide_eq_true (by omega)
      rw [show decide ((2000 < ck.length) ∨ (2000 < qk.length) ∨ (chk cn qk ≠ 0) ∨ (9223372036854775808 < cs.toNat)) = false from decide_eq_false (by intro hh; rcases hh with hh | hh | hh | hh <;> contradiction)]
      refine GC.reg ?_
      refine GL.val (rv_field fo_25_1 rfl rfl) rfl ?_
      refine GL.val (rv_load ag_22 rfl (by first | exact Hd.cell (k := 0) rfl rfl | exact Hd.rowCell (k := 0) rfl (by assumption))) rfl ?_
      refine GL.step (ot_call hb_8 rfl (callOk fun w hh => few2_b _ cA _ cc w hb1) rfl fun _ _ => ?_)
      refine GL.val (rv_not rfl) rfl ?_
      refine GL.val (rv_move rfl) rfl ?_
      first | refine GL.skipG rfl rfl ?_ | refine GL.skipU rfl rfl ?_ | refine GL.valT rfl (rv_move rfl) rfl ?_ | refine GL.valG rfl (fun hb => rv_move (by first | exact evb rfl hb | rfl)) rfl ?_
      first | refine GL.skipG rfl rfl ?_ | refine GL.skipU rfl rfl ?_ | refine GL.stepG rfl (ot_call hb_8 rfl (callOk fun w hh => few2_b _ qA _ qc w hb2) rfl fun _ _ => ?_)
      first | refine GL.skipG rfl rfl ?_ | refine GL.skipU rfl rfl ?_ | refine GL.valT rfl (rv_not rfl) rfl ?_ | refine GL.valG rfl (fun hb => rv_not (by first | exact evb rfl hb | rfl)) rfl ?_
      refine GL.val ((by first | exact rv_orF rfl rfl rfl | exact rv_orT rfl rfl rfl | exact rv_pickOr rfl rfl rfl)) rfl ?_
      refine GL.val (rv_move rfl) rfl ?_
      first | refine GL.skipG rfl rfl ?_ | refine GL.skipU rfl rfl ?_ | refine GL.valT rfl (rv_field fo_25_0 rfl rfl) rfl ?_ | refine GL.valG rfl (fun hb => rv_field fo_25_0 (by first | exact evb rfl hb | rfl) (by first | exact evb rfl hb | rfl)) rfl ?_
      first | refine GL.skipG rfl rfl ?_ | refine GL.skipU rfl rfl ?_ | refine GL.valT rfl (rv_load ag_9 rfl (by first | exact Hd.cell (k := 0) rfl rfl | exact Hd.rowCell (k := 0) rfl (by assumption))) rfl ?_ | refine GL.valG rfl (fun hb => rv_load ag_9 (by first | exact evb rfl hb | rfl) (by first | exact Hd.cell (k := 0) (by first | exact evb rfl hb | rfl) (by first | exact evb rfl hb | rfl) | exact Hd.rowCell (k := 0) (by first | exact evb rfl hb | rfl) (by assumption))) rfl ?_
      first | refine GL.skipG rfl rfl ?_ | refine GL.skipU rfl rfl ?_ | refine GL.valT rfl (rv_move rfl) rfl ?_ | refine GL.valG rfl (fun hb => rv_move (by first | exact evb rfl hb | rfl)) rfl ?_
      first | refine GL.skipG rfl rfl ?_ | refine GL.skipU rfl rfl ?_ | refine GL.stepG rfl (ot_call hb_16 rfl (callOk fun w hh => rcheck_c cn _ _ _ qk w hns rfl) rfl fun _ _ => ?_)
      first | refine GL.skipG rfl rfl ?_ | refine GL.skipU rfl rfl ?_ | refine GL.valT rfl ((by first | exact rv_to (v' := .bool true) (rv_neI rfl rfl) (by simp only [Value.bool.injEq, decide_eq_true_eq, decide_eq_false_iff_not]; first | assumption | omega) | exact rv_to (v' := .bool false) (rv_neI rfl rfl) (by simp only [Value.bool.injEq, decide_eq_true_eq, decide_eq_false_iff_not]; first | assumption | omega))) rfl ?_ | refine GL.valG rfl (fun hb => (by first | exact rv_to (v' := .bool true) (rv_neI (by first | exact evb rfl hb | rfl) (by first | exact evb rfl hb | rfl)) (by simp only [Value.bool.injEq, decide_eq_true_eq, decide_eq_false_iff_not]; first | assumption | omega) | exact rv_to (v' := .bool false) (rv_neI (by first | exact evb rfl hb | rfl) (by first | exact evb rfl hb | rfl)) (by simp only [Value.bool.injEq, decide_eq_true_eq, decide_eq_false_iff_not]; first | assumption | omega))) rfl ?_
      refine GL.val ((by first | exact rv_orF rfl rfl rfl | exact rv_orT rfl rfl rfl | exact rv_pickOr rfl rfl rfl)) rfl ?_
      refine GL.val (rv_move rfl) rfl ?_
      first | refine GL.skipG rfl rfl ?_ | refine GL.skipU rfl rfl ?_ | refine GL.valT rfl (rv_field fo_25_2 rfl rfl) rfl ?_ | refine GL.valG rfl (fun hb => rv_field fo_25_2 (by first | exact evb rfl hb | rfl) (by first | exact evb rfl hb | rfl)) rfl ?_
      first | refine GL.skipG rfl rfl ?_ | refine GL.skipU rfl rfl ?_ | refine GL.valT rfl (rv_load ag_23 rfl (by first | exact Hd.cell (k := 0) rfl rfl | exact Hd.rowCell (k := 0) rfl (by assumption))) rfl ?_ | refine GL.valG rfl (fun hb => rv_load ag_23 (by first | exact evb rfl hb | rfl) (by first | exact Hd.cell (k := 0) (by first | exact evb rfl hb | rfl) (by first | exact evb rfl hb | rfl) | exact Hd.rowCell (k := 0) (by first | exact evb rfl hb | rfl) (by assumption))) rfl ?_
      first | refine GL.skipG rfl rfl ?_ | refine GL.skipU rfl rfl ?_ | refine GL.valT rfl ((by first | exact rv_to (v' := .bool true) (rv_gtr rfl rfl) (by simp only [Value.bool.injEq, decide_eq_true_eq, decide_eq_false_iff_not]; omega) | exact rv_to (v' := .bool false) (rv_gtr rfl rfl) (by simp only [Value.bool.injEq, decide_eq_true_eq, decide_eq_false_iff_not]; omega))) rfl ?_ | refine GL.valG rfl (fun hb => (by first | exact rv_to (v' := .bool true) (rv_gtr (by first | exact evb rfl hb | rfl) (by first | exact evb rfl hb | rfl)) (by simp only [Value.bool.injEq, decide_eq_true_eq, decide_eq_false_iff_not]; omega) | exact rv_to (v' := .bool false) (rv_gtr (by first | exact evb rfl hb | rfl) (by first | exact evb rfl hb | rfl)) (by simp only [Value.bool.injEq, decide_eq_true_eq, decide_eq_false_iff_not]; omega))) rfl ?_
      refine GL.val ((by first | exact rv_orF rfl rfl rfl | exact rv_orT rfl rfl rfl | exact rv_pickOr rfl rfl rfl)) rfl ?_
      refine GL.nil ?_
      exact GX.cutq () trivial (by repeat (first | exact Sub.nil | refine Sub.cons rfl ?_)) (fun w9 h => by
          exact h)
  refine GX.then ?_
  first | refine GC.condP rfl (fun c29 => ?_) (fun c29 => ?_) | refine GC.cond rfl (fun c29 => ?_) (fun c29 => ?_)
  · skip
    refine GC.seq ?_
    refine GC.reg ?_
    refine GL.step (ot_call hb_9 rfl (callOk fun w hh => hwk w) rfl fun _ _ => ?_)
    refine GL.val (rv_assign rfl) rfl ?_
    refine GL.nil ?_
    refine GX.then ?_
    refine GC.ret ?_
    refine GX.then_ret ?_
    refine GX.ret1 rfl (RR.tmp rfl) ?_
    exact fun w9 h => ⟨(), rfl, by
        have h := h.sel [] rfl rfl
        exact h, trivial⟩
  · obtain ⟨hf1, hf2, hk, hm⟩ : ¬ 2000 < ck.length ∧ ¬ 2000 < qk.length ∧ ¬ chk cn qk ≠ 0 ∧ ¬ 9223372036854775808 < cs.toNat := by simpa using c29
    have hci := chk_inv (Decidable.byContradiction hk)
    have hm0 : ¬ cs = 18446744073709551615 := by rintro rfl; exact absurd hm (by decide)
    have hm1 : ¬ cs + 1 = 18446744073709551615 := by
      intro h
      have h := congrArg UInt64.toNat h
      rw [UInt64.toNat_add, show (1 : UInt64).toNat = 1 from rfl, show (18446744073709551615 : UInt64).toNat = 18446744073709551615 from rfl] at h
      omega
    refine GC.skip ?_
    refine GX.then ?_
    refine GC.seq ?_
    refine GC.reg ?_
    refine GL.val (rv_loadAL ag_25 rfl (by first | exact Hd.cellsAll (k := 0) rfl | exact Hd.cells (k := 0) rfl rfl) (by exact sz_25) (by first | (first | exact qc_len hal | (simp only [ws8_len, hal]; done) | (simp only [ws8_len, hal2]; done)) | rfl)) rfl ?_
    refine GL.val (rv_move rfl) rfl ?_
    refine GL.step (ot_call hb_13 rfl (callOk fun w hh => ask_c cn ck cA cc cs qk qA qc w (hh.rd0n hck) hcc (by omega) (by omega) (hh.rd0n hqk) hqc (by omega)) rfl fun g33 h33 => ?_)
    have hal := auth_len ck cn (cs + 1) qk
    generalize hau : auth ck cn (cs + 1) qk = au at hal ⊢
    refine GL.step (ot_alloc (zs := [.int .i64 0, .string ByteArray.empty, .slice none 0 0, .int .u8 0, .int .u8 0, .int .u8 0, .int .u8 0, .int .u8 0, .int .u8 0, .int .u8 0, .int .u8 0, .int .u8 0, .int .u8 0, .int .u8 0, .int .u8 0, .int .u8 0, .int .u8 0, .int .u8 0, .int .u8 0, .int .u8 0, .int .u8 0, .int .u8 0, .int .u8 0, .int .u8 0, .int .u8 0, .int .u8 0, .int .u8 0, .int .u8 0, .int .u8 0, .int .u8 0, .int .u8 0, .int .u8 0, .int .u8 0, .int .u8 0, .int .u8 0]) zb_29 rfl rfl fun b5 => ?_)
    refine GL.step (ot_storeA (k := 0) rfl rfl rfl rfl (by exact sz_29) (qc_len hal) rfl qc_one ?_)
    refine GL.nil ?_
    refine GX.then ?_
    refine GC.seq ?_
    refine GC.reg ?_
    refine GL.val (rv_loadAL ag_25 rfl (by first | exact Hd.cellsAll (k := 2) rfl | exact Hd.cells (k := 2) rfl rfl) (by exact sz_25) (by first | (first | exact qc_len hal | (simp only [ws8_len, hal]; done) | (simp only [ws8_len, hal2]; done)) | rfl)) rfl ?_
    refine GL.val (rv_loadAL ag_29 rfl (by first | exact Hd.cellsAll (k := 0) rfl | exact Hd.cells (k := 0) rfl rfl) (by exact sz_29) (by first | (first | exact qc_len hal | (simp only [ws8_len, hal]; done) | (simp only [ws8_len, hal2]; done)) | rfl)) rfl ?_
    refine GL.step (ot_call hb_10 rfl (callOk fun w hh => next_c true cn ck cA cc cs 2 cn qk g33.1 g33.2 au w (hh.rd0n hck) hcc (by omega) hal (by omega) (hh.ro (k := 1) rfl) h33 (by omega)) rfl fun g37 h37 => ?_)
    have hz1 : nxt true cn ck cs 2 cn qk au = 0 := by rw [nxt_ask, if_neg hk, if_neg hm0, hau, if_neg (fun h => h rfl)]
    rw [hz1]
    simp only [rn_0, rk_0, rs_0]
    rw [show nser 2 cs = cs + 1 from if_neg (by decide)]
    rw [hz1, rk_0] at h37
    refine GL.val (rv_move rfl) rfl ?_
    refine GL.val (rv_extract rfl rfl) rfl ?_
    refine GL.val (rv_extract rfl rfl) rfl ?_
    refine GL.step (ot_alloc (zs := [.string ByteArray.empty, .slice none 0 0, .int .u64 0]) zb_25 rfl rfl fun b6 => ?_)
    refine GL.step (ot_store (k := 0) rfl rfl rfl rfl sz_25 rfl rfl (by first | ((simp only [repl, List.set_cons_zero, List.set_cons_succ]) <;> rfl) | rfl) ?_)
    refine GL.val (rv_assign rfl) rfl ?_
    refine GL.nil ?_
    refine GX.then ?_
    refine GC.seq ?_
    refine GC.seq ?_
    refine GC.reg ?_
    refine GL.val (rv_move rfl) rfl ?_
    refine GL.val (rv_to (v' := .bool false) (rv_neI rfl rfl) (by simp)) rfl ?_
    refine GL.nil ?_
    refine GX.then ?_
    first | refine GC.condP rfl (fun c41 => ?_) (fun c41 => ?_) | refine GC.cond rfl (fun c41 => ?_) (fun c41 => ?_)
    · cases c41
    · skip
      refine GC.skip ?_
      refine GX.then ?_
      refine GC.seq ?_
      refine GC.reg ?_
      refine GL.val (rv_loadAL ag_25 rfl (by first | exact Hd.cellsAll (k := 0) rfl | exact Hd.cells (k := 0) rfl rfl) (by exact sz_25) (by first | (first | exact qc_len hal | (simp only [ws8_len, hal]; done) | (simp only [ws8_len, hal2]; done)) | rfl)) rfl ?_
      refine GL.val (rv_loadAL ag_29 rfl (by first | exact Hd.cellsAll (k := 2) rfl | exact Hd.cells (k := 2) rfl rfl) (by exact sz_29) (by first | (first | exact qc_len hal | (simp only [ws8_len, hal]; done) | (simp only [ws8_len, hal2]; done)) | rfl)) rfl ?_
      refine GL.step (ot_call hb_10 rfl (callOk fun w hh => next_c true cn qk g37.1 g37.2 (cs + 1) 2 cn qk g33.1 g33.2 au w (hh.ro (k := 1) rfl) h37 (by omega) hal (by omega) (hh.ro (k := 3) rfl) h33 (by omega)) rfl fun g45 h45 => ?_)
      refine GL.val (rv_move rfl) rfl ?_
      refine GL.val (rv_extract rfl rfl) rfl ?_
      refine GL.val (rv_extract rfl rfl) rfl ?_
      refine GL.val (rv_assign rfl) rfl ?_
      refine GL.nil ?_
      refine GX.then ?_
      refine GC.seq ?_
      refine GC.draw 19 [0, 1, 2, 3, 4, 5] mo_ ?_
      refine GD.pure (i := 0) rfl (fun _ _ => rv_field fo_25_1 rfl rfl) (by kernel_rfl) (by repeat (first | exact noPanicPut_body | exact noPanicPut_cut | exact noPanicPut_cutE | refine noPanicPut_then ?_ | refine noPanicPut_blk ?_)) ?_
      refine GD.pure (i := 2) rfl (fun _ _ => rv_field fo_25_0 rfl rfl) (by kernel_rfl) (by repeat (first | exact noPanicPut_body | exact noPanicPut_cut | exact noPanicPut_cutE | refine noPanicPut_then ?_ | refine noPanicPut_blk ?_)) ?_
      refine GD.pure (i := 4) rfl (fun _ _ => rv_field fo_25_2 rfl rfl) (by kernel_rfl) (by repeat (first | exact noPanicPut_body | exact noPanicPut_cut | exact noPanicPut_cutE | refine noPanicPut_then ?_ | refine noPanicPut_blk ?_)) ?_
      refine GD.pure (i := 7) rfl (fun _ _ => rv_move rfl) (by kernel_rfl) (by repeat (first | exact noPanicPut_body | exact noPanicPut_cut | exact noPanicPut_cutE | refine noPanicPut_then ?_ | refine noPanicPut_blk ?_)) ?_
      refine GD.pure (i := 9) rfl (fun _ _ => rv_move rfl) (by kernel_rfl) (by repeat (first | exact noPanicPut_body | exact noPanicPut_cut | exact noPanicPut_cutE | refine noPanicPut_then ?_ | refine noPanicPut_blk ?_)) ?_
      refine GD.pure (i := 10) rfl (fun _ _ => rv_field fo_25_0 rfl rfl) (by kernel_rfl) (by repeat (first | exact noPanicPut_body | exact noPanicPut_cut | exact noPanicPut_cutE | refine noPanicPut_then ?_ | refine noPanicPut_blk ?_)) ?_
      refine GD.pure (i := 12) rfl (fun _ _ => rv_field fo_25_2 rfl rfl) (by kernel_rfl) (by repeat (first | exact noPanicPut_body | exact noPanicPut_cut | exact noPanicPut_cutE | refine noPanicPut_then ?_ | refine noPanicPut_blk ?_)) ?_
      refine GD.pure (i := 15) rfl (fun _ _ => rv_move rfl) (by kernel_rfl) (by repeat (first | exact noPanicPut_body | exact noPanicPut_cut | exact noPanicPut_cutE | refine noPanicPut_then ?_ | refine noPanicPut_blk ?_)) ?_
      refine GD.read (i := 1) rfl (rv_load ag_22 rfl (by first | exact Hd.cell (k := 5) rfl rfl | exact Hd.rowCell (k := 5) rfl (by assumption))) (by kernel_rfl) (by repeat (first | exact noPanicPut_body | exact noPanicPut_cut | exact noPanicPut_cutE | refine noPanicPut_then ?_ | refine noPanicPut_blk ?_)) ?_
      refine GD.read (i := 3) rfl (rv_load ag_9 rfl (by first | exact Hd.cell (k := 5) rfl rfl | exact Hd.rowCell (k := 5) rfl (by assumption))) (by kernel_rfl) (by repeat (first | exact noPanicPut_body | exact noPanicPut_cut | exact noPanicPut_cutE | refine noPanicPut_then ?_ | refine noPanicPut_blk ?_)) ?_
      refine GD.read (i := 5) rfl (rv_load ag_23 rfl (by first | exact Hd.cell (k := 5) rfl rfl | exact Hd.rowCell (k := 5) rfl (by assumption))) (by kernel_rfl) (by repeat (first | exact noPanicPut_body | exact noPanicPut_cut | exact noPanicPut_cutE | refine noPanicPut_then ?_ | refine noPanicPut_blk ?_)) ?_
      refine GD.pure (i := 6) rfl (fun _ _ => rv_add64 (b := 1) rfl rfl) (by kernel_rfl) (by repeat (first | exact noPanicPut_body | exact noPanicPut_cut | exact noPanicPut_cutE | refine noPanicPut_then ?_ | refine noPanicPut_blk ?_)) ?_
      refine GD.read (i := 11) rfl (rv_load ag_9 rfl (by first | exact Hd.cell (k := 5) rfl rfl | exact Hd.rowCell (k := 5) rfl (by assumption))) (by kernel_rfl) (by repeat (first | exact noPanicPut_body | exact noPanicPut_cut | exact noPanicPut_cutE | refine noPanicPut_then ?_ | refine noPanicPut_blk ?_)) ?_
      refine GD.read (i := 13) rfl (rv_load ag_23 rfl (by first | exact Hd.cell (k := 5) rfl rfl | exact Hd.rowCell (k := 5) rfl (by assumption))) (by kernel_rfl) (by repeat (first | exact noPanicPut_body | exact noPanicPut_cut | exact noPanicPut_cutE | refine noPanicPut_then ?_ | refine noPanicPut_blk ?_)) ?_
      refine GD.pure (i := 14) rfl (fun _ _ => rv_add64 (b := 2) rfl rfl) (by kernel_rfl) (by repeat (first | exact noPanicPut_body | exact noPanicPut_cut | exact noPanicPut_cutE | refine noPanicPut_then ?_ | refine noPanicPut_blk ?_)) ?_
      refine GD.step (i := 8) (by kernel_rfl) rfl (ot_call hb_17 rfl (callOk fun w hh => rauth_b cA _ cc ck cn (cs + 1) qA _ qc qk w (hh.rd0n hck) rfl hcc (hh.rd0n hqk) rfl hqc (by omega) (by omega) (by omega)) rfl fun _ _ => ⟨.inr fun _ h => h.pk [0, 1, 2, 3, 4, 5], ?_⟩)
      rw [hau]
      refine GD.step (i := 16) (by kernel_rfl) rfl (ot_call hb_17 rfl (callOk fun w hh => rauth_b qA _ qc qk cn (cs + 2) qA _ qc qk w (hh.rd0n hqk) rfl hqc (hh.rd0n hqk) rfl hqc (by omega) (by omega) (by omega)) rfl fun _ _ => ⟨.inr fun _ h => h.pk [0, 1, 2, 3, 4, 5], ?_⟩)
      have hal2 := auth_len qk cn (cs + 2) qk
      generalize hau2 : auth qk cn (cs + 2) qk = au2 at hal2 ⊢
      rw [show cs + 2 = cs + 1 + 1 by rw [UInt64.add_assoc]; rfl] at hau2
      refine GD.pure (i := 17) rfl (fun _ _ => rv_eq24 rfl rfl hal hal2) (by kernel_rfl) (by repeat (first | exact noPanicPut_body | exact noPanicPut_cut | exact noPanicPut_cutE | refine noPanicPut_then ?_ | refine noPanicPut_blk ?_)) ?_
      refine GD.pure (i := 18) rfl (fun _ _ => rv_assign rfl) (by kernel_rfl) (by repeat (first | exact noPanicPut_body | exact noPanicPut_cut | exact noPanicPut_cutE | refine noPanicPut_then ?_ | refine noPanicPut_blk ?_)) ?_
      refine GD.done (by kernel_rfl) ?_
      refine GX.then ?_
      refine GC.seq ?_
      refine GC.cutq (γ := Unit) [] [5, 4, 3, 2, 1, 0] (fun g Lk => (4, .bool true) :: Lk) (fun g Fk => Fk) (fun g => True) rfl rfl ?_ (fun _ _ => ?_)
      · by_cases h : au = au2
        · have hz : nxt true cn qk (cs + 1) 2 cn qk au = 0 := by rw [nxt_ask, if_neg hk, if_neg hm1, hau2, if_neg (fun hh => hh h)]
          rw [hz, decide_eq_true h]
          refine GC.reg ?_
          refine GL.val (rv_move rfl) rfl ?_
          refine GL.val ((by first | exact rv_to (v' := .bool true) (rv_eqI rfl rfl) (congrArg Value.bool (decide_eq_true (by omega))) | exact rv_to (v' := .bool false) (rv_eqI rfl rfl) (congrArg Value.bool (decide_eq_false (by omega))))) rfl ?_
          refine GL.val (rv_move rfl) rfl ?_
          refine GL.val (rv_to (v' := .bool true) (rv_eqB rfl rfl (run_eqBool Try.underlying4)) (by simp)) rfl ?_
          refine GL.val (rv_move rfl) rfl ?_
          first | refine GL.skipG rfl rfl ?_ | refine GL.skipU rfl rfl ?_ | refine GL.stepG rfl (ot_call hb_9 rfl (callOk fun w hh => hwk w) rfl fun _ _ => ?_)
          refine GL.val ((by first | exact rv_andT rfl rfl rfl | exact rv_andF rfl rfl rfl | exact rv_pickAnd rfl rfl rfl)) rfl ?_
          refine GL.val (rv_assign rfl) rfl ?_
          refine GL.nil ?_
          exact GX.cutq () trivial (by repeat (first | exact Sub.nil | refine Sub.cons rfl ?_)) (fun w9 h => by
              exact h)
        · have hz : nxt true cn qk (cs + 1) 2 cn qk au = 8 := by rw [nxt_ask, if_neg hk, if_neg hm1, hau2, if_pos h]
          rw [hz, decide_eq_false h]
          refine GC.reg ?_
          refine GL.val (rv_move rfl) rfl ?_
          refine GL.val ((by first | exact rv_to (v' := .bool true) (rv_eqI rfl rfl) (congrArg Value.bool (decide_eq_true (by omega))) | exact rv_to (v' := .bool false) (rv_eqI rfl rfl) (congrArg Value.bool (decide_eq_false (by omega))))) rfl ?_
          refine GL.val (rv_move rfl) rfl ?_
          refine GL.val (rv_to (v' := .bool true) (rv_eqB rfl rfl (run_eqBool Try.underlying4)) (by simp)) rfl ?_
          refine GL.val (rv_move rfl) rfl ?_
          first | refine GL.skipG rfl rfl ?_ | refine GL.skipU rfl rfl ?_ | refine GL.stepG rfl (ot_call hb_9 rfl (callOk fun w hh => hwk w) rfl fun _ _ => ?_)
          refine GL.val ((by first | exact rv_andT rfl rfl rfl | exact rv_andF rfl rfl rfl | exact rv_pickAnd rfl rfl rfl)) rfl ?_
          refine GL.val (rv_assign rfl) rfl ?_
          refine GL.nil ?_
          exact GX.cutq () trivial (by repeat (first | exact Sub.nil | refine Sub.cons rfl ?_)) (fun w9 h => by
              exact h)
      refine GX.then ?_
      refine GC.ret ?_
      refine GX.ret1 rfl (RR.tmp rfl) ?_
      exact fun w9 h => ⟨(), rfl, by
          have h := h.sel [] rfl rfl
          exact h, trivial⟩
theorem asks_int (cn : ByteArray) (ck : Sh.B) (cA : Option Addr) (cc : Nat) (cs : UInt64) (qk : Sh.B) (qA : Option Addr) (n0 qc : Nat) (w : World) (hck : SlR w cA (byts ck)) (hcc : ck.length ≤ cc) (hns : cn.size < 4611686018427387904) (h0r : SlR w qA (byts qk)) (h0l : qk.length = n0) (h0c : n0 ≤ qc) (hwk : ∀ w : World, Calls Try.prog 9 [].toArray w fun e w' => ∃ _g : Unit, e = .returned (.bool true) ∧ St noB w w' [] ∧ True) : Calls Try.prog 4 [.agg (bcell cn ck cA cc cs).toArray, .slice qA n0 qc].toArray w fun e w' => ∃ _g : Unit, e = .returned (.bool true) ∧ St noB w w' [] ∧ True := by
  subst h0l
  exact asks_law cn ck cA cc cs qk qA qc w hck hcc hns h0r h0c hwk
theorem others_int (cn : ByteArray) (ck : Sh.B) (cA : Option Addr) (cc : Nat) (cs : UInt64) (wk : Sh.B) (wA : Option Addr) (n0 wc : Nat) (qk : Sh.B) (qA : Option Addr) (n1 qc : Nat) (w : World) (hck : SlR w cA (byts ck)) (hcc : ck.length ≤ cc) (hns : cn.size < 4611686018427387904) (h0r : SlR w wA (byts wk)) (h0l : wk.length = n0) (h0c : n0 ≤ wc) (h1r : SlR w qA (byts qk)) (h1l : qk.length = n1) (h1c : n1 ≤ qc) (hwk : ∀ w : World, Calls Try.prog 9 [].toArray w fun e w' => ∃ _g : Unit, e = .returned (.bool true) ∧ St noB w w' [] ∧ True) : Calls Try.prog 5 [.agg (bcell cn ck cA cc cs).toArray, .slice wA n0 wc, .slice qA n1 qc].toArray w fun e w' => ∃ _g : Unit, e = .returned (.bool true) ∧ St noB w w' [] ∧ True := by
  subst h0l
  subst h1l
  exact others_law cn ck cA cc cs wk wA wc qk qA qc w hck hcc hns h0r h0c h1r h1c hwk
theorem once_int (cn : ByteArray) (ck : Sh.B) (cA : Option Addr) (cc : Nat) (cs : UInt64) (qk : Sh.B) (qA : Option Addr) (n0 qc : Nat) (w : World) (hck : SlR w cA (byts ck)) (hcc : ck.length ≤ cc) (hns : cn.size < 4611686018427387904) (h0r : SlR w qA (byts qk)) (h0l : qk.length = n0) (h0c : n0 ≤ qc) (hwk : ∀ w : World, Calls Try.prog 9 [].toArray w fun e w' => ∃ _g : Unit, e = .returned (.bool true) ∧ St noB w w' [] ∧ True) : Calls Try.prog 6 [.agg (bcell cn ck cA cc cs).toArray, .slice qA n0 qc].toArray w fun e w' => ∃ _g : Unit, e = .returned (.bool true) ∧ St noB w w' [] ∧ True := by
  subst h0l
  exact once_law cn ck cA cc cs qk qA qc w hck hcc hns h0r h0c hwk
end Go.Proofs.Ytiiofagddljgdaa
