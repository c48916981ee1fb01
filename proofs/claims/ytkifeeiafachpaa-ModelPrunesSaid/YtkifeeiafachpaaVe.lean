import Derived.Test.YtkifeeiafachpaaVd
set_option linter.unusedVariables false
set_option linter.unusedSimpArgs false
namespace Go.Proofs.Ytkifeeiafachpaa
open Go Go.RowKit Go.Bz
theorem hb_27 : hasBody Try.prog 27 = true := by kernel_rfl
theorem hb_65 : hasBody Try.prog 65 = true := by kernel_rfl
def rg (c : Int) (A : Option Addr) (k : Nat) : Option Addr × Nat := if c = 0 then (A, k) else (none, 0)
theorem rg_no {c : Int} (h : c ≠ 0) (A : Option Addr) (k : Nat) : rg c A k = (none, 0) := if_neg h
theorem rg_0 (A : Option Addr) (k : Nat) : rg 0 A k = (A, k) := rfl
theorem rg_slr {w : World} {c : Int} {A : Option Addr} {k : Nat} {qk : Sh.B} (h : SlR w A (byts qk)) : SlR w (rg c A k).1 (byts (rk c qk)) := by
  by_cases hc : c = 0
  · subst hc; exact h
  · rw [rk_no hc]; exact .inl rfl
set_option maxRecDepth 100000 in
set_option maxHeartbeats 1000000 in
theorem rnext_c (hv : Bool) (cn : ByteArray) (ck : Sh.B) (cA : Option Addr) (cc : Nat) (cs : UInt64) (kd : Int) (qn : ByteArray) (qk : Sh.B) (qA : Option Addr) (qc : Nat) (dg : Sh.B) (w : World) (hck : SlR w cA (byts ck)) (hcc : ck.length ≤ cc) (hckl : ck.length ≤ 2000) (hd : dg.length = 32) (hqs : qn.size < 4611686018427387904) (hqk : SlR w qA (byts qk)) (hqc : qk.length ≤ qc) (hqkl : qk.length ≤ 2000) : Calls Try.prog 56 [.agg (bcell cn ck cA cc cs).toArray, .bool hv, .agg (qcell kd qn qk qA qc dg).toArray].toArray w fun e w' => ∃ _g : Unit, e = .returned (.tuple #[.agg (bcell (rn (nxt hv cn ck cs kd qn qk dg) qn) (rk (nxt hv cn ck cs kd qn qk dg) qk) (rg (nxt hv cn ck cs kd qn qk dg) qA qc).1 (rg (nxt hv cn ck cs kd qn qk dg) qA qc).2 (rs (nxt hv cn ck cs kd qn qk dg) (nser kd cs))).toArray, .int .i64 (nxt hv cn ck cs kd qn qk dg)]) ∧ St noB w w' [] ∧ True := by
  refine GC.calls Try.func56 rfl rfl (St.begin _) ?_
  refine GC.seq ?_
  refine GC.reg ?_
  refine GL.step (ot_box rfl rfl rfl fun b3 => ?_)
  refine GL.step (ot_box rfl rfl rfl fun b5 => ?_)
  refine GL.step (ot_alloc (zs := [.string ByteArray.empty, .slice none 0 0, .int .u64 0]) zb_49 rfl rfl fun b6 => ?_)
  refine GL.val (rv_assign rfl) rfl ?_
  refine GL.nil ?_
  refine GX.then ?_
  refine GC.seq ?_
  refine GC.seq ?_
  refine GC.cutq (γ := Unit) [6, 5, 3, 1] [2, 1, 0] (fun g Lk => (16, .bool (decide (¬ kd = 1 ∧ ¬ kd = 2))) :: Lk) (fun g Fk => Fk) (fun g => True) rfl rfl ?_ (fun _ _ => ?_)
  · rcases (by omega : (kd = 1) ∨ (kd = 2) ∨ (¬ kd = 1 ∧ ¬ kd = 2)) with h | h | h
    · rw [show decide (¬ kd = 1 ∧ ¬ kd = 2) = false from decide_eq_false (by omega)]
      refine GC.reg ?_
      refine GL.val (rv_field fo_31_0 rfl rfl) rfl ?_
      refine GL.val (rv_load ag_3 rfl (by exact Hd.cell (k := 1) rfl rfl)) rfl ?_
      refine GL.val ((by exact rv_to (v' := .bool false) (rv_neI rfl rfl) (by simp only [Value.bool.injEq, decide_eq_true_eq, decide_eq_false_iff_not]; first | assumption | omega))) rfl ?_
      refine GL.val (rv_move rfl) rfl ?_
      refine GL.skipG rfl rfl ?_
      refine GL.skipG rfl rfl ?_
      refine GL.skipG rfl rfl ?_
      refine GL.val ((by exact rv_andF rfl rfl rfl)) rfl ?_
      refine GL.nil ?_
      exact GX.cutq () trivial (by repeat (first | exact Sub.nil | refine Sub.cons rfl ?_)) (fun w9 h => by
          exact h)
    · rw [show decide (¬ kd = 1 ∧ ¬ kd = 2) = false from decide_eq_false (by omega)]
      refine GC.reg ?_
      refine GL.val (rv_field fo_31_0 rfl rfl) rfl ?_
      refine GL.val (rv_load ag_3 rfl (by exact Hd.cell (k := 1) rfl rfl)) rfl ?_
      refine GL.val ((by exact rv_to (v' := .bool true) (rv_neI rfl rfl) (by simp only [Value.bool.injEq, decide_eq_true_eq, decide_eq_false_iff_not]; first | assumption | omega))) rfl ?_
      refine GL.val (rv_move rfl) rfl ?_
      refine GL.valT rfl (rv_field fo_31_0 rfl rfl) rfl ?_
      refine GL.valT rfl (rv_load ag_3 rfl (by exact Hd.cell (k := 1) rfl rfl)) rfl ?_
      refine GL.valT rfl ((by exact rv_to (v' := .bool false) (rv_neI rfl rfl) (by simp only [Value.bool.injEq, decide_eq_true_eq, decide_eq_false_iff_not]; first | assumption | omega))) rfl ?_
      refine GL.val ((by exact rv_andT rfl rfl rfl)) rfl ?_
      refine GL.nil ?_
      exact GX.cutq () trivial (by repeat (first | exact Sub.nil | refine Sub.cons rfl ?_)) (fun w9 h => by
          exact h)
    · rw [show decide (¬ kd = 1 ∧ ¬ kd = 2) = true from decide_eq_true (by omega)]
      refine GC.reg ?_
      refine GL.val (rv_field fo_31_0 rfl rfl) rfl ?_
      refine GL.val (rv_load ag_3 rfl (by exact Hd.cell (k := 1) rfl rfl)) rfl ?_
      refine GL.val ((by exact rv_to (v' := .bool true) (rv_neI rfl rfl) (by simp only [Value.bool.injEq, decide_eq_true_eq, decide_eq_false_iff_not]; first | assumption | omega))) rfl ?_
      refine GL.val (rv_move rfl) rfl ?_
      refine GL.valT rfl (rv_field fo_31_0 rfl rfl) rfl ?_
      refine GL.valT rfl (rv_load ag_3 rfl (by exact Hd.cell (k := 1) rfl rfl)) rfl ?_
      refine GL.valT rfl ((by exact rv_to (v' := .bool true) (rv_neI rfl rfl) (by simp only [Value.bool.injEq, decide_eq_true_eq, decide_eq_false_iff_not]; first | assumption | omega))) rfl ?_
      refine GL.val ((by exact rv_andT rfl rfl rfl)) rfl ?_
      refine GL.nil ?_
      exact GX.cutq () trivial (by repeat (first | exact Sub.nil | refine Sub.cons rfl ?_)) (fun w9 h => by
          exact h)
  refine GX.then ?_
  refine GC.condP rfl (fun c16 => ?_) (fun c16 => ?_)
  · have hk := c16
    have h14 : pchk kd qn qk ≠ 0 := by unfold pchk; rw [if_pos hk]; decide
    have hN : nxt hv cn ck cs kd qn qk dg = 1 := by unfold nxt; rw [if_pos h14]; unfold pchk; rw [if_pos hk]
    refine GC.seq ?_
    refine GC.reg ?_
    refine GL.val (rv_buildS pl_49 zb_49 rfl rfl (by ((simp only [bldL, repl, List.set_cons_zero, List.set_cons_succ, List.getElem?_cons_zero, List.getElem?_cons_succ, Option.getD_some, Value.cells]) <;> rfl))) rfl ?_
    refine GL.step (ot_store (k := 0) rfl rfl rfl rfl sz_49 rfl rfl (by ((simp only [repl, List.set_cons_zero, List.set_cons_succ]) <;> rfl)) ?_)
    refine GL.val (rv_assign rfl) rfl ?_
    refine GL.nil ?_
    refine GX.then ?_
    refine GC.ret ?_
    refine GX.then_ret ?_
    refine GX.ret2 rfl (RR.cellL ag_49 rfl (by exact Hd.cellsAll (k := 0) rfl) (by exact sz_49) (by (first | exact qc_len hd | (simp [ws8_len, hd]; done)))) (RR.tmp rfl) ?_
    exact fun w9 h => ⟨(), (by rw [hN, rn_no (by decide), rk_no (by decide), rs_no (by decide), rg_no (by decide)]; rfl), by
        have h := h.sel [] rfl rfl
        exact h, trivial⟩
  · have hk := c16
    have hpk : pchk kd qn qk = chk qn qk := by unfold pchk; rw [if_neg hk]
    refine GC.skip ?_
    refine GX.then ?_
    refine GC.seq ?_
    refine GC.seq ?_
    refine GC.reg ?_
    refine GL.val (rv_field fo_31_1 rfl rfl) rfl ?_
    refine GL.val (rv_load ag_9 rfl (by exact Hd.cell (k := 1) rfl rfl)) rfl ?_
    refine GL.val (rv_field fo_31_2 rfl rfl) rfl ?_
    refine GL.val (rv_load ag_27 rfl (by exact Hd.cell (k := 1) rfl rfl)) rfl ?_
    refine GL.step (ot_call hb_27 rfl (callOk fun w hh => rcheck_c qn qA _ qc qk w hqs rfl) rfl fun _ _ => ?_)
    refine GL.val (rv_assign rfl) rfl ?_
    refine GL.nil ?_
    refine GX.then ?_
    refine GC.seq ?_
    refine GC.reg ?_
    refine GL.val (rv_move rfl) rfl ?_
    refine GL.val (rv_neI rfl rfl) rfl ?_
    refine GL.nil ?_
    refine GX.then ?_
    refine GC.condP rfl (fun c24 => ?_) (fun c24 => ?_)
    · have h24 : chk qn qk ≠ 0 := by simpa using c24
      have hN : nxt hv cn ck cs kd qn qk dg = chk qn qk := by unfold nxt; rw [hpk, if_pos h24]
      refine GC.seq ?_
      refine GC.reg ?_
      refine GL.val (rv_buildS pl_49 zb_49 rfl rfl (by ((simp only [bldL, repl, List.set_cons_zero, List.set_cons_succ, List.getElem?_cons_zero, List.getElem?_cons_succ, Option.getD_some, Value.cells]) <;> rfl))) rfl ?_
      refine GL.val (rv_move rfl) rfl ?_
      refine GL.step (ot_store (k := 0) rfl rfl rfl rfl sz_49 rfl rfl (by ((simp only [repl, List.set_cons_zero, List.set_cons_succ]) <;> rfl)) ?_)
      refine GL.val (rv_assign rfl) rfl ?_
      refine GL.nil ?_
      refine GX.then ?_
      refine GC.ret ?_
      refine GX.then_ret ?_
      refine GX.ret2 rfl (RR.cellL ag_49 rfl (by exact Hd.cellsAll (k := 0) rfl) (by exact sz_49) (by (first | exact qc_len hd | (simp [ws8_len, hd]; done)))) (RR.tmp rfl) ?_
      exact fun w9 h => ⟨(), (by rw [hN, rn_no h24, rk_no h24, rs_no h24, rg_no h24]; rfl), by
          have h := h.sel [] rfl rfl
          exact h, trivial⟩
    · have h24 : chk qn qk = 0 := by simpa using c24
      have h14 : ¬ pchk kd qn qk ≠ 0 := by rw [hpk]; exact fun h => h h24
      have hsz : qn.size ≤ 32 := (chk_inv h24).1
      refine GC.skip ?_
      refine GX.then ?_
      refine GC.seq ?_
      refine GC.seq ?_
      refine GC.reg ?_
      refine GL.val (rv_move rfl) rfl ?_
      refine GL.val (rv_move rfl) rfl ?_
      refine GL.valG rfl (fun hb => rv_field fo_49_0 (by rfl) (by rfl)) rfl ?_
      refine GL.valG rfl (fun hb => rv_load ag_9 (by exact evb rfl hb) (by exact Hd.cell (k := 2) (by first | exact evb rfl hb | rfl) (by first | exact evb rfl hb | rfl))) rfl ?_
      refine GL.valG rfl (fun hb => rv_field fo_31_1 (by rfl) (by rfl)) rfl ?_
      refine GL.valG rfl (fun hb => rv_load ag_9 (by exact evb rfl hb) (by exact Hd.cell (k := 1) (by first | exact evb rfl hb | rfl) (by first | exact evb rfl hb | rfl))) rfl ?_
      refine GL.valG rfl (fun hb => rv_neS (by exact evb rfl hb) (by exact evb rfl hb)) rfl ?_
      refine GL.val ((by exact rv_pickAnd rfl rfl rfl)) rfl ?_
      refine GL.nil ?_
      refine GX.then ?_
      refine GC.cond rfl (fun c34 => ?_) (fun c34 => ?_)
      · have h26 : hv = true ∧ cn ≠ qn := by simpa using c34
        have hN : nxt hv cn ck cs kd qn qk dg = 1 := by unfold nxt; rw [if_neg h14, if_pos h26]
        refine GC.seq ?_
        refine GC.reg ?_
        refine GL.val (rv_buildS pl_49 zb_49 rfl rfl (by ((simp only [bldL, repl, List.set_cons_zero, List.set_cons_succ, List.getElem?_cons_zero, List.getElem?_cons_succ, Option.getD_some, Value.cells]) <;> rfl))) rfl ?_
        refine GL.step (ot_store (k := 0) rfl rfl rfl rfl sz_49 rfl rfl (by ((simp only [repl, List.set_cons_zero, List.set_cons_succ]) <;> rfl)) ?_)
        refine GL.val (rv_assign rfl) rfl ?_
        refine GL.nil ?_
        refine GX.then ?_
        refine GC.ret ?_
        refine GX.then_ret ?_
        refine GX.ret2 rfl (RR.cellL ag_49 rfl (by exact Hd.cellsAll (k := 0) rfl) (by exact sz_49) (by (first | exact qc_len hd | (simp [ws8_len, hd]; done)))) (RR.tmp rfl) ?_
        exact fun w9 h => ⟨(), (by rw [hN, rn_no (by decide), rk_no (by decide), rs_no (by decide), rg_no (by decide)]; rfl), by
            have h := h.sel [] rfl rfl
            exact h, trivial⟩
      · have h26 : ¬ (hv = true ∧ cn ≠ qn) := by simpa using c34
        refine GC.skip ?_
        refine GX.then ?_
        refine GC.seq ?_
        refine GC.seq ?_
        refine GC.reg ?_
        refine GL.val (rv_field fo_31_0 rfl rfl) rfl ?_
        refine GL.val (rv_load ag_3 rfl (by exact Hd.cell (k := 1) rfl rfl)) rfl ?_
        refine GL.val (rv_eqI rfl rfl) rfl ?_
        refine GL.nil ?_
        refine GX.then ?_
        refine GC.condP rfl (fun c38 => ?_) (fun c38 => ?_)
        · have h51 : kd = 1 := by simpa using c38
          refine GC.seq ?_
          refine GC.seq ?_
          refine GC.reg ?_
          refine GL.val (rv_move rfl) rfl ?_
          refine GL.nil ?_
          refine GX.then ?_
          refine GC.cond rfl (fun c39 => ?_) (fun c39 => ?_)
          · have h54 : hv = true := by simpa using c39
            have hN : nxt hv cn ck cs kd qn qk dg = 6 := by unfold nxt; rw [if_neg h14, if_neg h26, if_pos h51, if_pos h54]
            refine GC.seq ?_
            refine GC.reg ?_
            refine GL.val (rv_buildS pl_49 zb_49 rfl rfl (by ((simp only [bldL, repl, List.set_cons_zero, List.set_cons_succ, List.getElem?_cons_zero, List.getElem?_cons_succ, Option.getD_some, Value.cells]) <;> rfl))) rfl ?_
            refine GL.step (ot_store (k := 0) rfl rfl rfl rfl sz_49 rfl rfl (by ((simp only [repl, List.set_cons_zero, List.set_cons_succ]) <;> rfl)) ?_)
            refine GL.val (rv_assign rfl) rfl ?_
            refine GL.nil ?_
            refine GX.then ?_
            refine GC.ret ?_
            refine GX.then_ret ?_
            refine GX.then_ret ?_
            refine GX.ret2 rfl (RR.cellL ag_49 rfl (by exact Hd.cellsAll (k := 0) rfl) (by exact sz_49) (by (first | exact qc_len hd | (simp [ws8_len, hd]; done)))) (RR.tmp rfl) ?_
            exact fun w9 h => ⟨(), (by rw [hN, rn_no (by decide), rk_no (by decide), rs_no (by decide), rg_no (by decide)]; rfl), by
                have h := h.sel [] rfl rfl
                exact h, trivial⟩
          · have h54 : ¬ hv = true := by simpa using c39
            refine GC.skip ?_
            refine GX.then ?_
            refine GC.seq ?_
            refine GC.seq ?_
            refine GC.reg ?_
            refine GL.val (rv_field fo_31_3 rfl rfl) rfl ?_
            refine GL.val (rv_loadAL ag_29 rfl (Hd.cells (k := 1) rfl qc_d) (by exact sz_29) (by (first | exact qc_len hd | (simp [ws8_len, hd]; done)))) rfl ?_
            refine GL.val (rv_to (v' := .agg (ws8 zdg).toArray) (rv_buildAp (cs := ws8 zdg) as_29 zb_29 rfl rfl) rfl) rfl ?_
            refine GL.val (rv_ne24 rfl rfl hd zdg_len) rfl ?_
            refine GL.nil ?_
            refine GX.then ?_
            refine GC.cond rfl (fun c44 => ?_) (fun c44 => ?_)
            · have h44 : dg ≠ zdg := by simpa using c44
              have hN : nxt hv cn ck cs kd qn qk dg = 8 := by unfold nxt; rw [if_neg h14, if_neg h26, if_pos h51, if_neg h54, if_pos h44]
              refine GC.seq ?_
              refine GC.reg ?_
              refine GL.val (rv_buildS pl_49 zb_49 rfl rfl (by ((simp only [bldL, repl, List.set_cons_zero, List.set_cons_succ, List.getElem?_cons_zero, List.getElem?_cons_succ, Option.getD_some, Value.cells]) <;> rfl))) rfl ?_
              refine GL.step (ot_store (k := 0) rfl rfl rfl rfl sz_49 rfl rfl (by ((simp only [repl, List.set_cons_zero, List.set_cons_succ]) <;> rfl)) ?_)
              refine GL.val (rv_assign rfl) rfl ?_
              refine GL.nil ?_
              refine GX.then ?_
              refine GC.ret ?_
              refine GX.then_ret ?_
              refine GX.then_ret ?_
              refine GX.ret2 rfl (RR.cellL ag_49 rfl (by exact Hd.cellsAll (k := 0) rfl) (by exact sz_49) (by (first | exact qc_len hd | (simp [ws8_len, hd]; done)))) (RR.tmp rfl) ?_
              exact fun w9 h => ⟨(), (by rw [hN, rn_no (by decide), rk_no (by decide), rs_no (by decide), rg_no (by decide)]; rfl), by
                  have h := h.sel [] rfl rfl
                  exact h, trivial⟩
            · have h44 : ¬ dg ≠ zdg := by simpa using c44
              have hN : nxt hv cn ck cs kd qn qk dg = 0 := by unfold nxt; rw [if_neg h14, if_neg h26, if_pos h51, if_neg h54, if_neg h44]
              refine GC.skip ?_
              refine GX.then ?_
              refine GC.seq ?_
              refine GC.reg ?_
              refine GL.val (rv_field fo_31_1 rfl rfl) rfl ?_
              refine GL.val (rv_load ag_9 rfl (by exact Hd.cell (k := 1) rfl rfl)) rfl ?_
              refine GL.val (rv_field fo_31_2 rfl rfl) rfl ?_
              refine GL.val (rv_load ag_27 rfl (by exact Hd.cell (k := 1) rfl rfl)) rfl ?_
              refine GL.val (rv_buildS pl_49 zb_49 rfl rfl (by ((simp only [bldL, repl, List.set_cons_zero, List.set_cons_succ, List.getElem?_cons_zero, List.getElem?_cons_succ, Option.getD_some, Value.cells]) <;> rfl))) rfl ?_
              refine GL.step (ot_store (k := 0) rfl rfl rfl rfl sz_49 rfl rfl (by ((simp only [repl, List.set_cons_zero, List.set_cons_succ]) <;> rfl)) ?_)
              refine GL.val (rv_assign rfl) rfl ?_
              refine GL.nil ?_
              refine GX.then ?_
              refine GC.ret ?_
              refine GX.then_ret ?_
              refine GX.ret2 rfl (RR.cellL ag_49 rfl (by exact Hd.cellsAll (k := 0) rfl) (by exact sz_49) (by (first | exact qc_len hd | (simp [ws8_len, hd]; done)))) (RR.tmp rfl) ?_
              exact fun w9 h => ⟨(), (by rw [hN, rn_0, rk_0, rs_0, rg_0, show nser kd cs = 1 from if_pos h51]; rfl), by
                  have h := h.sel [] rfl rfl
                  exact h, trivial⟩
        · have h51 : ¬ kd = 1 := by simpa using c38
          refine GC.skip ?_
          refine GX.then ?_
          refine GC.seq ?_
          refine GC.seq ?_
          refine GC.reg ?_
          refine GL.val (rv_move rfl) rfl ?_
          refine GL.val (rv_not rfl) rfl ?_
          refine GL.nil ?_
          refine GX.then ?_
          refine GC.cond rfl (fun c52 => ?_) (fun c52 => ?_)
          · have h54 : hv = false := by simpa using c52
            have hN : nxt hv cn ck cs kd qn qk dg = 7 := by unfold nxt; rw [if_neg h14, if_neg h26, if_neg h51, if_pos h54]
            refine GC.seq ?_
            refine GC.reg ?_
            refine GL.val (rv_buildS pl_49 zb_49 rfl rfl (by ((simp only [bldL, repl, List.set_cons_zero, List.set_cons_succ, List.getElem?_cons_zero, List.getElem?_cons_succ, Option.getD_some, Value.cells]) <;> rfl))) rfl ?_
            refine GL.step (ot_store (k := 0) rfl rfl rfl rfl sz_49 rfl rfl (by ((simp only [repl, List.set_cons_zero, List.set_cons_succ]) <;> rfl)) ?_)
            refine GL.val (rv_assign rfl) rfl ?_
            refine GL.nil ?_
            refine GX.then ?_
            refine GC.ret ?_
            refine GX.then_ret ?_
            refine GX.ret2 rfl (RR.cellL ag_49 rfl (by exact Hd.cellsAll (k := 0) rfl) (by exact sz_49) (by (first | exact qc_len hd | (simp [ws8_len, hd]; done)))) (RR.tmp rfl) ?_
            exact fun w9 h => ⟨(), (by rw [hN, rn_no (by decide), rk_no (by decide), rs_no (by decide), rg_no (by decide)]; rfl), by
                have h := h.sel [] rfl rfl
                exact h, trivial⟩
          · have h54 : hv = true := by simpa using c52
            have h54b : ¬ hv = false := by rw [h54]; decide
            refine GC.skip ?_
            refine GX.then ?_
            refine GC.seq ?_
            refine GC.seq ?_
            refine GC.reg ?_
            refine GL.val (rv_field fo_49_2 rfl rfl) rfl ?_
            refine GL.val (rv_load ag_24 rfl (by exact Hd.cell (k := 2) rfl rfl)) rfl ?_
            refine GL.val (rv_eq64 (b := 18446744073709551615) rfl rfl) rfl ?_
            refine GL.nil ?_
            refine GX.then ?_
            refine GC.condP rfl (fun c56 => ?_) (fun c56 => ?_)
            · have h58 : cs = 18446744073709551615 := by simpa using c56
              have hN : nxt hv cn ck cs kd qn qk dg = 12 := by unfold nxt; rw [if_neg h14, if_neg h26, if_neg h51, if_neg h54b, if_pos h58]
              refine GC.seq ?_
              refine GC.reg ?_
              refine GL.val (rv_buildS pl_49 zb_49 rfl rfl (by ((simp only [bldL, repl, List.set_cons_zero, List.set_cons_succ, List.getElem?_cons_zero, List.getElem?_cons_succ, Option.getD_some, Value.cells]) <;> rfl))) rfl ?_
              refine GL.step (ot_store (k := 0) rfl rfl rfl rfl sz_49 rfl rfl (by ((simp only [repl, List.set_cons_zero, List.set_cons_succ]) <;> rfl)) ?_)
              refine GL.val (rv_assign rfl) rfl ?_
              refine GL.nil ?_
              refine GX.then ?_
              refine GC.ret ?_
              refine GX.then_ret ?_
              refine GX.ret2 rfl (RR.cellL ag_49 rfl (by exact Hd.cellsAll (k := 0) rfl) (by exact sz_49) (by (first | exact qc_len hd | (simp [ws8_len, hd]; done)))) (RR.tmp rfl) ?_
              exact fun w9 h => ⟨(), (by rw [hN, rn_no (by decide), rk_no (by decide), rs_no (by decide), rg_no (by decide)]; rfl), by
                  have h := h.sel [] rfl rfl
                  exact h, trivial⟩
            · have h58 : ¬ cs = 18446744073709551615 := by simpa using c56
              refine GC.skip ?_
              refine GX.then ?_
              refine GC.seq ?_
              refine GC.seq ?_
              refine GC.draw 13 [0, 1, 2] mo_ ?_
              refine GD.pure1 (i := 0) rfl (fun _ _ => rv_field fo_31_3 rfl rfl) ?_
              refine GD.pure1 (i := 2) rfl (fun _ _ => rv_field fo_49_1 rfl rfl) ?_
              refine GD.pure1 (i := 4) rfl (fun _ _ => rv_field fo_31_1 rfl rfl) ?_
              refine GD.pure1 (i := 6) rfl (fun _ _ => rv_field fo_49_2 rfl rfl) ?_
              refine GD.pure1 (i := 9) rfl (fun _ _ => rv_field fo_31_2 rfl rfl) ?_
              refine GD.read1 (i := 1) rfl (rv_loadAL ag_29 rfl (Hd.cells (k := 1) rfl qc_d) (by exact sz_29) (by (first | exact qc_len hd | (simp [ws8_len, hd]; done)))) ?_
              refine GD.read1 (i := 3) rfl (rv_load ag_27 rfl (by exact Hd.cell (k := 2) rfl rfl)) ?_
              refine GD.read1 (i := 5) rfl (rv_load ag_9 rfl (by exact Hd.cell (k := 1) rfl rfl)) ?_
              refine GD.read1 (i := 7) rfl (rv_load ag_24 rfl (by exact Hd.cell (k := 2) rfl rfl)) ?_
              refine GD.pure1 (i := 8) rfl (fun _ _ => rv_add64 (b := 1) rfl rfl) ?_
              refine GD.step (i := 10) (by kernel_rfl) rfl (ot_val (rv_load ag_27 rfl (by exact Hd.cell (k := 1) rfl rfl)) rfl ⟨.inr fun _ h => h.pk [0, 1, 2], ?_⟩)
              refine GD.step (i := 11) (by kernel_rfl) rfl (ot_call hb_65 rfl (callOk fun w hh => rauth_b cA _ cc ck qn (cs + 1) qA _ qc qk w (hh.rd0n hck) rfl hcc (hh.rd0n hqk) rfl hqc (by omega) (by omega) (by omega)) rfl fun _ _ => ⟨.inr fun _ h => h.pk [0, 1, 2], ?_⟩)
              have hal := auth_len ck qn (cs + 1) qk
              generalize hau : auth ck qn (cs + 1) qk = au at hal ⊢
              refine GD.pure1 (i := 12) rfl (fun _ _ => rv_ne24 rfl rfl hd hal) ?_
              refine GD.done (by kernel_rfl) ?_
              refine GX.then ?_
              refine GC.cond rfl (fun c70 => ?_) (fun c70 => ?_)
              · have h78 : dg ≠ au := by simpa using c70
                have hN : nxt hv cn ck cs kd qn qk dg = 8 := by unfold nxt; rw [if_neg h14, if_neg h26, if_neg h51, if_neg h54b, if_neg h58, if_pos (hau ▸ h78)]
                refine GC.seq ?_
                refine GC.reg ?_
                refine GL.val (rv_buildS pl_49 zb_49 rfl rfl (by ((simp only [bldL, repl, List.set_cons_zero, List.set_cons_succ, List.getElem?_cons_zero, List.getElem?_cons_succ, Option.getD_some, Value.cells]) <;> rfl))) rfl ?_
                refine GL.step (ot_store (k := 0) rfl rfl rfl rfl sz_49 rfl rfl (by ((simp only [repl, List.set_cons_zero, List.set_cons_succ]) <;> rfl)) ?_)
                refine GL.val (rv_assign rfl) rfl ?_
                refine GL.nil ?_
                refine GX.then ?_
                refine GC.ret ?_
                refine GX.then_ret ?_
                refine GX.ret2 rfl (RR.cellL ag_49 rfl (by exact Hd.cellsAll (k := 0) rfl) (by exact sz_49) (by (first | exact qc_len hd | (simp [ws8_len, hd]; done)))) (RR.tmp rfl) ?_
                exact fun w9 h => ⟨(), (by rw [hN, rn_no (by decide), rk_no (by decide), rs_no (by decide), rg_no (by decide)]; rfl), by
                    have h := h.sel [] rfl rfl
                    exact h, trivial⟩
              · have h78 : ¬ dg ≠ au := by simpa using c70
                have hN : nxt hv cn ck cs kd qn qk dg = 0 := by unfold nxt; rw [if_neg h14, if_neg h26, if_neg h51, if_neg h54b, if_neg h58, if_neg (hau ▸ h78)]
                refine GC.skip ?_
                refine GX.then ?_
                refine GC.seq ?_
                refine GC.reg ?_
                refine GL.val (rv_field fo_31_1 rfl rfl) rfl ?_
                refine GL.val (rv_load ag_9 rfl (by exact Hd.cell (k := 1) rfl rfl)) rfl ?_
                refine GL.val (rv_field fo_31_2 rfl rfl) rfl ?_
                refine GL.val (rv_load ag_27 rfl (by exact Hd.cell (k := 1) rfl rfl)) rfl ?_
                refine GL.val (rv_field fo_49_2 rfl rfl) rfl ?_
                refine GL.val (rv_load ag_24 rfl (by exact Hd.cell (k := 2) rfl rfl)) rfl ?_
                refine GL.val (rv_add64 (b := 1) rfl rfl) rfl ?_
                refine GL.val (rv_buildS pl_49 zb_49 rfl rfl (by ((simp only [bldL, repl, List.set_cons_zero, List.set_cons_succ, List.getElem?_cons_zero, List.getElem?_cons_succ, Option.getD_some, Value.cells]) <;> rfl))) rfl ?_
                refine GL.step (ot_store (k := 0) rfl rfl rfl rfl sz_49 rfl rfl (by ((simp only [repl, List.set_cons_zero, List.set_cons_succ]) <;> rfl)) ?_)
                refine GL.val (rv_assign rfl) rfl ?_
                refine GL.nil ?_
                refine GX.then ?_
                refine GC.ret ?_
                refine GX.ret2 rfl (RR.cellL ag_49 rfl (by exact Hd.cellsAll (k := 0) rfl) (by exact sz_49) (by (first | exact qc_len hd | (simp [ws8_len, hd]; done)))) (RR.tmp rfl) ?_
                exact fun w9 h => ⟨(), (by rw [hN, rn_0, rk_0, rs_0, rg_0, show nser kd cs = cs + 1 from if_neg h51]; rfl), by
                    have h := h.sel [] rfl rfl
                    exact h, trivial⟩
set_option maxRecDepth 100000 in
set_option maxHeartbeats 1000000 in
theorem sreq_c (kd : Int) (qn : ByteArray) (qk : Sh.B) (qA : Option Addr) (qc : Nat) (dg : Sh.B) (kd2 : Int) (qn2 : ByteArray) (qk2 : Sh.B) (qA2 : Option Addr) (qc2 : Nat) (dg2 : Sh.B) (w : World) (hd : dg.length = 32) (hd2 : dg2.length = 32) (hqk : SlR w qA (byts qk)) (hqk2 : SlR w qA2 (byts qk2)) : Calls Try.prog 36 [.agg (qcell kd qn qk qA qc dg).toArray, .agg (qcell kd2 qn2 qk2 qA2 qc2 dg2).toArray].toArray w fun e w' => ∃ _g : Unit, e = .returned (.bool (decide (kd = kd2 ∧ qn = qn2 ∧ qk = qk2 ∧ dg = dg2))) ∧ St noB w w' [] ∧ True := by
  refine GC.calls Try.func36 rfl rfl (St.begin _) ?_
  refine GC.seq ?_
  refine GC.reg ?_
  refine GL.step (ot_box rfl rfl rfl fun b2 => ?_)
  refine GL.step (ot_box rfl rfl rfl fun b3 => ?_)
  refine GL.val (rv_assign rfl) rfl ?_
  refine GL.nil ?_
  refine GX.then ?_
  refine GC.seq ?_
  refine GC.cutq (γ := Unit) [] [1, 0] (fun g Lk => (4, .bool (decide (kd = kd2 ∧ qn = qn2 ∧ qk = qk2 ∧ dg = dg2))) :: Lk) (fun g Fk => Fk) (fun g => True) rfl rfl ?_ (fun _ _ => ?_)
  · rcases (by by_cases h1 : kd = kd2 <;> by_cases h2 : qn = qn2 <;> by_cases h3 : qk = qk2 <;> simp [h1, h2, h3] : (¬ kd = kd2) ∨ (kd = kd2 ∧ ¬ qn = qn2) ∨ (kd = kd2 ∧ qn = qn2 ∧ ¬ qk = qk2) ∨ (kd = kd2 ∧ qn = qn2 ∧ qk = qk2)) with h | h | h | h
    · rw [show decide (kd = kd2 ∧ qn = qn2 ∧ qk = qk2 ∧ dg = dg2) = false from decide_eq_false (fun q => h q.1)]
      refine GC.reg ?_
      refine GL.val (rv_field fo_31_0 rfl rfl) rfl ?_
      refine GL.val (rv_load ag_3 rfl (by exact Hd.cell (k := 1) rfl rfl)) rfl ?_
      refine GL.val (rv_field fo_31_0 rfl rfl) rfl ?_
      refine GL.val (rv_load ag_3 rfl (by exact Hd.cell (k := 0) rfl rfl)) rfl ?_
      refine GL.val ((by exact rv_to (v' := .bool false) (rv_eqI rfl rfl) (by simp only [Value.bool.injEq, decide_eq_true_eq, decide_eq_false_iff_not]; first | assumption | omega))) rfl ?_
      refine GL.val (rv_move rfl) rfl ?_
      refine GL.skipG rfl rfl ?_
      refine GL.skipG rfl rfl ?_
      refine GL.skipG rfl rfl ?_
      refine GL.skipG rfl rfl ?_
      refine GL.skipG rfl rfl ?_
      refine GL.val ((by exact rv_andF rfl rfl rfl)) rfl ?_
      refine GL.val (rv_move rfl) rfl ?_
      refine GL.skipG rfl rfl ?_
      refine GL.skipG rfl rfl ?_
      refine GL.skipG rfl rfl ?_
      refine GL.skipG rfl rfl ?_
      refine GL.skipG rfl rfl ?_
      refine GL.skipG rfl rfl ?_
      refine GL.skipG rfl rfl ?_
      refine GL.val ((by exact rv_andF rfl rfl rfl)) rfl ?_
      refine GL.val (rv_move rfl) rfl ?_
      refine GL.skipG rfl rfl ?_
      refine GL.skipG rfl rfl ?_
      refine GL.skipG rfl rfl ?_
      refine GL.skipG rfl rfl ?_
      refine GL.skipG rfl rfl ?_
      refine GL.val ((by exact rv_andF rfl rfl rfl)) rfl ?_
      refine GL.val (rv_assign rfl) rfl ?_
      refine GL.nil ?_
      exact GX.cutq () trivial (by repeat (first | exact Sub.nil | refine Sub.cons rfl ?_)) (fun w9 h => by
          exact h)
    · have h1 := h.1
      have h2 := h.2
      rw [show decide (kd = kd2 ∧ qn = qn2 ∧ qk = qk2 ∧ dg = dg2) = false from decide_eq_false (fun q => h.2 q.2.1)]
      refine GC.reg ?_
      refine GL.val (rv_field fo_31_0 rfl rfl) rfl ?_
      refine GL.val (rv_load ag_3 rfl (by exact Hd.cell (k := 1) rfl rfl)) rfl ?_
      refine GL.val (rv_field fo_31_0 rfl rfl) rfl ?_
      refine GL.val (rv_load ag_3 rfl (by exact Hd.cell (k := 0) rfl rfl)) rfl ?_
      refine GL.val ((by exact rv_to (v' := .bool true) (rv_eqI rfl rfl) (by simp only [Value.bool.injEq, decide_eq_true_eq, decide_eq_false_iff_not]; first | assumption | omega))) rfl ?_
      refine GL.val (rv_move rfl) rfl ?_
      refine GL.valT rfl (rv_field fo_31_1 rfl rfl) rfl ?_
      refine GL.valT rfl (rv_load ag_9 rfl (by exact Hd.cell (k := 1) rfl rfl)) rfl ?_
      refine GL.valT rfl (rv_field fo_31_1 rfl rfl) rfl ?_
      refine GL.valT rfl (rv_load ag_9 rfl (by exact Hd.cell (k := 0) rfl rfl)) rfl ?_
      refine GL.valT rfl ((by exact rv_to (v' := .bool false) (rv_eqS rfl rfl) (by simp only [Value.bool.injEq, decide_eq_true_eq, decide_eq_false_iff_not]; first | assumption | omega))) rfl ?_
      refine GL.val ((by exact rv_andT rfl rfl rfl)) rfl ?_
      refine GL.val (rv_move rfl) rfl ?_
      refine GL.skipG rfl rfl ?_
      refine GL.skipG rfl rfl ?_
      refine GL.skipG rfl rfl ?_
      refine GL.skipG rfl rfl ?_
      refine GL.skipG rfl rfl ?_
      refine GL.skipG rfl rfl ?_
      refine GL.skipG rfl rfl ?_
      refine GL.val ((by exact rv_andF rfl rfl rfl)) rfl ?_
      refine GL.val (rv_move rfl) rfl ?_
      refine GL.skipG rfl rfl ?_
      refine GL.skipG rfl rfl ?_
      refine GL.skipG rfl rfl ?_
      refine GL.skipG rfl rfl ?_
      refine GL.skipG rfl rfl ?_
      refine GL.val ((by exact rv_andF rfl rfl rfl)) rfl ?_
      refine GL.val (rv_assign rfl) rfl ?_
      refine GL.nil ?_
      exact GX.cutq () trivial (by repeat (first | exact Sub.nil | refine Sub.cons rfl ?_)) (fun w9 h => by
          exact h)
    · have h1 := h.1
      have h2 := h.2.1
      have h3 := h.2.2
      rw [show decide (kd = kd2 ∧ qn = qn2 ∧ qk = qk2 ∧ dg = dg2) = false from decide_eq_false (fun q => h3 q.2.2.1)]
      refine GC.reg ?_
      refine GL.val (rv_field fo_31_0 rfl rfl) rfl ?_
      refine GL.val (rv_load ag_3 rfl (by exact Hd.cell (k := 1) rfl rfl)) rfl ?_
      refine GL.val (rv_field fo_31_0 rfl rfl) rfl ?_
      refine GL.val (rv_load ag_3 rfl (by exact Hd.cell (k := 0) rfl rfl)) rfl ?_
      refine GL.val ((by exact rv_to (v' := .bool true) (rv_eqI rfl rfl) (by simp only [Value.bool.injEq, decide_eq_true_eq, decide_eq_false_iff_not]; first | assumption | omega))) rfl ?_
      refine GL.val (rv_move rfl) rfl ?_
      refine GL.valT rfl (rv_field fo_31_1 rfl rfl) rfl ?_
      refine GL.valT rfl (rv_load ag_9 rfl (by exact Hd.cell (k := 1) rfl rfl)) rfl ?_
      refine GL.valT rfl (rv_field fo_31_1 rfl rfl) rfl ?_
      refine GL.valT rfl (rv_load ag_9 rfl (by exact Hd.cell (k := 0) rfl rfl)) rfl ?_
      refine GL.valT rfl ((by exact rv_to (v' := .bool true) (rv_eqS rfl rfl) (by simp only [Value.bool.injEq, decide_eq_true_eq, decide_eq_false_iff_not]; first | assumption | omega))) rfl ?_
      refine GL.val ((by exact rv_andT rfl rfl rfl)) rfl ?_
      refine GL.val (rv_move rfl) rfl ?_
      refine GL.valT rfl (rv_field fo_31_2 rfl rfl) rfl ?_
      refine GL.valT rfl (rv_load ag_27 rfl (by exact Hd.cell (k := 1) rfl rfl)) rfl ?_
      refine GL.valT rfl (rv_convBS Try.underlying27 Try.underlying5 Try.underlying9 rfl (fun w h => h.rd0n hqk) rfl) rfl ?_
      refine GL.valT rfl (rv_field fo_31_2 rfl rfl) rfl ?_
      refine GL.valT rfl (rv_load ag_27 rfl (by exact Hd.cell (k := 0) rfl rfl)) rfl ?_
      refine GL.valT rfl (rv_convBS Try.underlying27 Try.underlying5 Try.underlying9 rfl (fun w h => h.rd0n hqk2) rfl) rfl ?_
      refine GL.valT rfl ((by exact rv_to (v' := .bool false) (rv_to (v' := .bool (decide (qk = qk2))) (rv_eqS rfl rfl) (by rw [show decide (qk = qk2) = decide ((⟨qk.toArray⟩ : ByteArray) = ⟨qk2.toArray⟩) from decide_eq_decide.2 ba_inj.symm])) (by simp only [Value.bool.injEq, decide_eq_true_eq, decide_eq_false_iff_not]; first | assumption | omega))) rfl ?_
      refine GL.val ((by exact rv_andT rfl rfl rfl)) rfl ?_
      refine GL.val (rv_move rfl) rfl ?_
      refine GL.skipG rfl rfl ?_
      refine GL.skipG rfl rfl ?_
      refine GL.skipG rfl rfl ?_
      refine GL.skipG rfl rfl ?_
      refine GL.skipG rfl rfl ?_
      refine GL.val ((by exact rv_andF rfl rfl rfl)) rfl ?_
      refine GL.val (rv_assign rfl) rfl ?_
      refine GL.nil ?_
      exact GX.cutq () trivial (by repeat (first | exact Sub.nil | refine Sub.cons rfl ?_)) (fun w9 h => by
          exact h)
    · have h1 := h.1
      have h2 := h.2.1
      have h3 := h.2.2
      rw [show decide (kd = kd2 ∧ qn = qn2 ∧ qk = qk2 ∧ dg = dg2) = decide (dg = dg2) from decide_eq_decide.2 ⟨fun q => q.2.2.2, fun q => ⟨h1, h2, h3, q⟩⟩]
      refine GC.reg ?_
      refine GL.val (rv_field fo_31_0 rfl rfl) rfl ?_
      refine GL.val (rv_load ag_3 rfl (by exact Hd.cell (k := 1) rfl rfl)) rfl ?_
      refine GL.val (rv_field fo_31_0 rfl rfl) rfl ?_
      refine GL.val (rv_load ag_3 rfl (by exact Hd.cell (k := 0) rfl rfl)) rfl ?_
      refine GL.val ((by exact rv_to (v' := .bool true) (rv_eqI rfl rfl) (by simp only [Value.bool.injEq, decide_eq_true_eq, decide_eq_false_iff_not]; first | assumption | omega))) rfl ?_
      refine GL.val (rv_move rfl) rfl ?_
      refine GL.valT rfl (rv_field fo_31_1 rfl rfl) rfl ?_
      refine GL.valT rfl (rv_load ag_9 rfl (by exact Hd.cell (k := 1) rfl rfl)) rfl ?_
      refine GL.valT rfl (rv_field fo_31_1 rfl rfl) rfl ?_
      refine GL.valT rfl (rv_load ag_9 rfl (by exact Hd.cell (k := 0) rfl rfl)) rfl ?_
      refine GL.valT rfl ((by exact rv_to (v' := .bool true) (rv_eqS rfl rfl) (by simp only [Value.bool.injEq, decide_eq_true_eq, decide_eq_false_iff_not]; first | assumption | omega))) rfl ?_
      refine GL.val ((by exact rv_andT rfl rfl rfl)) rfl ?_
      refine GL.val (rv_move rfl) rfl ?_
      refine GL.valT rfl (rv_field fo_31_2 rfl rfl) rfl ?_
      refine GL.valT rfl (rv_load ag_27 rfl (by exact Hd.cell (k := 1) rfl rfl)) rfl ?_
      refine GL.valT rfl (rv_convBS Try.underlying27 Try.underlying5 Try.underlying9 rfl (fun w h => h.rd0n hqk) rfl) rfl ?_
      refine GL.valT rfl (rv_field fo_31_2 rfl rfl) rfl ?_
      refine GL.valT rfl (rv_load ag_27 rfl (by exact Hd.cell (k := 0) rfl rfl)) rfl ?_
      refine GL.valT rfl (rv_convBS Try.underlying27 Try.underlying5 Try.underlying9 rfl (fun w h => h.rd0n hqk2) rfl) rfl ?_
      refine GL.valT rfl ((by exact rv_to (v' := .bool true) (rv_to (v' := .bool (decide (qk = qk2))) (rv_eqS rfl rfl) (by rw [show decide (qk = qk2) = decide ((⟨qk.toArray⟩ : ByteArray) = ⟨qk2.toArray⟩) from decide_eq_decide.2 ba_inj.symm])) (by simp only [Value.bool.injEq, decide_eq_true_eq, decide_eq_false_iff_not]; first | assumption | omega))) rfl ?_
      refine GL.val ((by exact rv_andT rfl rfl rfl)) rfl ?_
      refine GL.val (rv_move rfl) rfl ?_
      refine GL.valT rfl (rv_field fo_31_3 rfl rfl) rfl ?_
      refine GL.valT rfl (rv_loadAL ag_29 rfl (Hd.cells (k := 1) rfl qc_d) (by exact sz_29) (by (first | exact qc_len hd | exact qc_len hd2 | (simp only [ws8_len, hd]; done) | (simp only [ws8_len, hd2]; done)))) rfl ?_
      refine GL.valT rfl (rv_field fo_31_3 rfl rfl) rfl ?_
      refine GL.valT rfl (rv_loadAL ag_29 rfl (Hd.cells (k := 0) rfl qc_d) (by exact sz_29) (by (first | exact qc_len hd | exact qc_len hd2 | (simp only [ws8_len, hd]; done) | (simp only [ws8_len, hd2]; done)))) rfl ?_
      refine GL.valT rfl (rv_eq24 rfl rfl hd hd2) rfl ?_
      refine GL.val ((by exact rv_andT rfl rfl rfl)) rfl ?_
      refine GL.val (rv_assign rfl) rfl ?_
      refine GL.nil ?_
      exact GX.cutq () trivial (by repeat (first | exact Sub.nil | refine Sub.cons rfl ?_)) (fun w9 h => by
          exact h)
  refine GX.then ?_
  refine GC.ret ?_
  refine GX.ret1 rfl (RR.tmp rfl) ?_
  exact fun w9 h => ⟨(), rfl, by
      have h := h.sel [] rfl rfl
      exact h, trivial⟩
end Go.Proofs.Ytkifeeiafachpaa
