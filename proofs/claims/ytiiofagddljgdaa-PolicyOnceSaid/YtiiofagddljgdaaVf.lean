import Derived.Test.YtiiofagddljgdaaVe
set_option linter.unusedVariables false
set_option linter.unusedSimpArgs false
namespace Go.Proofs.Ytiiofagddljgdaa
open Go Go.RowKit Go.Bz
theorem hb_10 : hasBody Try.prog 10 = true := by kernel_rfl
theorem hb_11 : hasBody Try.prog 11 = true := by kernel_rfl
theorem hb_12 : hasBody Try.prog 12 = true := by kernel_rfl
theorem hb_13 : hasBody Try.prog 13 = true := by kernel_rfl
theorem hb_8 : hasBody Try.prog 8 = true := by kernel_rfl
theorem hb_9 : hasBody Try.prog 9 = true := by kernel_rfl
theorem sbind_t (nm : ByteArray) (key : Sh.B) (kA : Option Addr) (kc : Nat) (ser : UInt64) (kA2 : Option Addr) (kc2 : Nat) (w : World) (hk : SlR w kA (byts key)) (hk2 : SlR w kA2 (byts key)) : Calls Try.prog 12 [.agg (bcell nm key kA kc ser).toArray, .agg (bcell nm key kA2 kc2 ser).toArray].toArray w fun e w' => ∃ _g : Unit, e = .returned (.bool true) ∧ St noB w w' [] ∧ True :=
  (sbind_c nm key kA kc ser nm key kA2 kc2 ser w hk hk2).mono fun e w' ⟨_, he, hs, _⟩ => ⟨(), by rw [he]; simp, hs, trivial⟩
set_option maxRecDepth 100000 in
set_option maxHeartbeats 1000000 in
theorem decides_law (hv : Bool) (cn : ByteArray) (ck : Sh.B) (cA : Option Addr) (cc : Nat) (cs : UInt64) (kd : Int) (qn : ByteArray) (qk : Sh.B) (qA : Option Addr) (qc : Nat) (dg : Sh.B) (w : World) (hck : SlR w cA (byts ck)) (hcc : ck.length ≤ cc) (hd : dg.length = 32) (hqs : qn.size < 4611686018427387904) (hqk : SlR w qA (byts qk)) (hqc : qk.length ≤ qc) (hwk : ∀ w : World, Calls Try.prog 9 [].toArray w fun e w' => ∃ _g : Unit, e = .returned (.bool true) ∧ St noB w w' [] ∧ True) : Calls Try.prog 3 [.agg (bcell cn ck cA cc cs).toArray, .bool hv, .agg (qcell kd qn qk qA qc dg).toArray].toArray w fun e w' => ∃ _g : Unit, e = .returned (.bool true) ∧ St noB w w' [] ∧ True := by
  refine GC.calls Try.func3 rfl rfl (St.begin _) ?_
  refine GC.seq ?_
  refine GC.reg ?_
  refine GL.step (ot_box rfl rfl rfl fun b3 => ?_)
  refine GL.step (ot_box rfl rfl rfl fun b5 => ?_)
  refine GL.val (rv_assign rfl) rfl ?_
  refine GL.nil ?_
  refine GX.then ?_
  refine GC.seq ?_
  refine GC.seq ?_
  refine GC.cutq (γ := Unit) [5, 3, 1] [1, 0] (fun g Lk => (20, .bool (decide (2000 < ck.length ∨ 2000 < qk.length))) :: Lk) (fun g Fk => Fk) (fun g => True) rfl rfl ?_ (fun _ _ => ?_)
  · rcases (by omega : (2000 < ck.length) ∨ (ck.length ≤ 2000 ∧ 2000 < qk.length) ∨ (ck.length ≤ 2000 ∧ qk.length ≤ 2000)) with h | h | h
    · have hb1 : decide (ck.length ≤ 2000) = false := decide_eq_false (by omega)
      have hb2 : decide (qk.length ≤ 2000) = decide (qk.length ≤ 2000) := rfl
      rw [show decide (2000 < ck.length ∨ 2000 < qk.length) = true from decide_eq_true (by omega)]
      refine GC.reg ?_
      refine GL.val (rv_field fo_25_1 rfl rfl) rfl ?_
      refine GL.val (rv_load ag_22 rfl (by first | exact Hd.cell (k := 1) rfl rfl | exact Hd.rowCell (k := 1) rfl (by assumption))) rfl ?_
      refine GL.step (ot_call hb_8 rfl (callOk fun w hh => few2_b _ cA _ cc w hb1) rfl fun _ _ => ?_)
      refine GL.val (rv_not rfl) rfl ?_
      refine GL.val (rv_move rfl) rfl ?_
      first | refine GL.skipG rfl rfl ?_ | refine GL.skipU rfl rfl ?_ | refine GL.valT rfl (rv_field fo_29_2 rfl rfl) rfl ?_ | refine GL.valG rfl (fun hb => rv_field fo_29_2 (by first | exact evb rfl hb | rfl) (by first | exact evb rfl hb | rfl)) rfl ?_
      first | refine GL.skipG rfl rfl ?_ | refine GL.skipU rfl rfl ?_ | refine GL.valT rfl (rv_load ag_22 rfl (by first | exact Hd.cell (k := 0) rfl rfl | exact Hd.rowCell (k := 0) rfl (by assumption))) rfl ?_ | refine GL.valG rfl (fun hb => rv_load ag_22 (by first | exact evb rfl hb | rfl) (by first | exact Hd.cell (k := 0) (by first | exact evb rfl hb | rfl) (by first | exact evb rfl hb | rfl) | exact Hd.rowCell (k := 0) (by first | exact evb rfl hb | rfl) (by assumption))) rfl ?_
      first | refine GL.skipG rfl rfl ?_ | refine GL.skipU rfl rfl ?_ | refine GL.stepG rfl (ot_call hb_8 rfl (callOk fun w hh => few2_b _ qA _ qc w hb2) rfl fun _ _ => ?_)
      first | refine GL.skipG rfl rfl ?_ | refine GL.skipU rfl rfl ?_ | refine GL.valT rfl (rv_not rfl) rfl ?_ | refine GL.valG rfl (fun hb => rv_not (by first | exact evb rfl hb | rfl)) rfl ?_
      refine GL.val ((by first | exact rv_orF rfl rfl rfl | exact rv_orT rfl rfl rfl | exact rv_pickOr rfl rfl rfl)) rfl ?_
      refine GL.nil ?_
      exact GX.cutq () trivial (by repeat (first | exact Sub.nil | refine Sub.cons rfl ?_)) (fun w9 h => by
          exact h)
    · have hb1 : decide (ck.length ≤ 2000) = true := decide_eq_true (by omega)
      have hb2 : decide (qk.length ≤ 2000) = false := decide_eq_false (by omega)
      rw [show decide (2000 < ck.length ∨ 2000 < qk.length) = true from decide_eq_true (by omega)]
      refine GC.reg ?_
      refine GL.val (rv_field fo_25_1 rfl rfl) rfl ?_
      refine GL.val (rv_load ag_22 rfl (by first | exact Hd.cell (k := 1) rfl rfl | exact Hd.rowCell (k := 1) rfl (by assumption))) rfl ?_
      refine GL.step (ot_call hb_8 rfl (callOk fun w hh => few2_b _ cA _ cc w hb1) rfl fun _ _ => ?_)
      refine GL.val (rv_not rfl) rfl ?_
      refine GL.val (rv_move rfl) rfl ?_
      first | refine GL.skipG rfl rfl ?_ | refine GL.skipU rfl rfl ?_ | refine GL.valT rfl (rv_field fo_29_2 rfl rfl) rfl ?_ | refine GL.valG rfl (fun hb => rv_field fo_29_2 (by first | exact evb rfl hb | rfl) (by first | exact evb rfl hb | rfl)) rfl ?_
      first | refine GL.skipG rfl rfl ?_ | refine GL.skipU rfl rfl ?_ | refine GL.valT rfl (rv_load ag_22 rfl (by first | exact Hd.cell (k := 0) rfl rfl | exact Hd.rowCell (k := 0) rfl (by assumption))) rfl ?_ | refine GL.valG rfl (fun hb => rv_load ag_22 (by first | exact evb rfl hb | rfl) (by first | exact Hd.cell (k := 0) (by first | exact evb rfl hb | rfl) (by first | exact evb rfl hb | rfl) | exact Hd.rowCell (k := 0) (by first | exact evb rfl hb | rfl) (by assumption))) rfl ?_
      first | refine GL.skipG rfl rfl ?_ | refine GL.skipU rfl rfl ?_ | refine GL.stepG rfl (ot_call hb_8 rfl (callOk fun w hh => few2_b _ qA _ qc w hb2) rfl fun _ _ => ?_)
      first | refine GL.skipG rfl rfl ?_ | refine GL.skipU rfl rfl ?_ | refine GL.valT rfl (rv_not rfl) rfl ?_ | refine GL.valG rfl (fun hb => rv_not (by first | exact evb rfl hb | rfl)) rfl ?_
      refine GL.val ((by first | exact rv_orF rfl rfl rfl | exact rv_orT rfl rfl rfl | exact rv_pickOr rfl rfl rfl)) rfl ?_
      refine GL.nil ?_
      exact GX.cutq () trivial (by repeat (first | exact Sub.nil | refine Sub.cons rfl ?_)) (fun w9 h => by
          exact h)
    · have hb1 : decide (ck.length ≤ 2000) = true := decide_eq_true (by omega)
      have hb2 : decide (qk.length ≤ 2000) = true := decide_eq_true (by omega)
      rw [show decide (2000 < ck.length ∨ 2000 < qk.length) = false from decide_eq_false (by omega)]
      refine GC.reg ?_
      refine GL.val (rv_field fo_25_1 rfl rfl) rfl ?_
      refine GL.val (rv_load ag_22 rfl (by first | exact Hd.cell (k := 1) rfl rfl | exact Hd.rowCell (k := 1) rfl (by assumption))) rfl ?_
      refine GL.step (ot_call hb_8 rfl (callOk fun w hh => few2_b _ cA _ cc w hb1) rfl fun _ _ => ?_)
      refine GL.val (rv_not rfl) rfl ?_
      refine GL.val (rv_move rfl) rfl ?_
      first | refine GL.skipG rfl rfl ?_ | refine GL.skipU rfl rfl ?_ | refine GL.valT rfl (rv_field fo_29_2 rfl rfl) rfl ?_ | refine GL.valG rfl (fun hb => rv_field fo_29_2 (by first | exact evb rfl hb | rfl) (by first | exact evb rfl hb | rfl)) rfl ?_
      first | refine GL.skipG rfl rfl ?_ | refine GL.skipU rfl rfl ?_ | refine GL.valT rfl (rv_load ag_22 rfl (by first | exact Hd.cell (k := 0) rfl rfl | exact Hd.rowCell (k := 0) rfl (by assumption))) rfl ?_ | refine GL.valG rfl (fun hb => rv_load ag_22 (by first | exact evb rfl hb | rfl) (by first | exact Hd.cell (k := 0) (by first | exact evb rfl hb | rfl) (by first | exact evb rfl hb | rfl) | exact Hd.rowCell (k := 0) (by first | exact evb rfl hb | rfl) (by assumption))) rfl ?_
      first | refine GL.skipG rfl rfl ?_ | refine GL.skipU rfl rfl ?_ | refine GL.stepG rfl (ot_call hb_8 rfl (callOk fun w hh => few2_b _ qA _ qc w hb2) rfl fun _ _ => ?_)
      first | refine GL.skipG rfl rfl ?_ | refine GL.skipU rfl rfl ?_ | refine GL.valT rfl (rv_not rfl) rfl ?_ | refine GL.valG rfl (fun hb => rv_not (by first | exact evb rfl hb | rfl)) rfl ?_
      refine GL.val ((by first | exact rv_orF rfl rfl rfl | exact rv_orT rfl rfl rfl | exact rv_pickOr rfl rfl rfl)) rfl ?_
      refine GL.nil ?_
      exact GX.cutq () trivial (by repeat (first | exact Sub.nil | refine Sub.cons rfl ?_)) (fun w9 h => by
          exact h)
  refine GX.then ?_
  first | refine GC.condP rfl (fun c20 => ?_) (fun c20 => ?_) | refine GC.cond rfl (fun c20 => ?_) (fun c20 => ?_)
  · skip
    refine GC.seq ?_
    refine GC.reg ?_
    refine GL.step (ot_call hb_9 rfl (callOk fun w hh => hwk w) rfl fun _ _ => ?_)
    refine GL.val (rv_assign rfl) rfl ?_
    refine GL.nil ?_
    refine GX.then ?_
    refine GC.ret ?_
    refine GX.then_ret ?_
    refine GX.ret1 rfl (RR.tmp rfl) ?_
    exact fun w9 h => ⟨(), rfl, by
        have h := h.sel [] rfl rfl
        exact h, trivial⟩
  · have hf : ¬ (2000 < ck.length ∨ 2000 < qk.length) := by simpa using c20
    refine GC.skip ?_
    refine GX.then ?_
    refine GC.seq ?_
    refine GC.reg ?_
    refine GL.val (rv_loadAL ag_25 rfl (by first | exact Hd.cellsAll (k := 1) rfl | exact Hd.cells (k := 1) rfl rfl) (by exact sz_25) (by first | (first | exact qc_len hd) | rfl)) rfl ?_
    refine GL.val (rv_move rfl) rfl ?_
    refine GL.val (rv_loadAL ag_29 rfl (by first | exact Hd.cellsAll (k := 0) rfl | exact Hd.cells (k := 0) rfl rfl) (by exact sz_29) (by first | (first | exact qc_len hd) | rfl)) rfl ?_
    refine GL.step (ot_call hb_10 rfl (callOk fun w hh => next_c hv cn ck cA cc cs kd qn qk qA qc dg w (hh.rd0n hck) hcc (by omega) hd hqs (hh.rd0n hqk) hqc (by omega)) rfl fun g26 h26 => ?_)
    refine GL.val (rv_move rfl) rfl ?_
    refine GL.val (rv_extract rfl rfl) rfl ?_
    refine GL.val (rv_extract rfl rfl) rfl ?_
    refine GL.step (ot_alloc (zs := [.string ByteArray.empty, .slice none 0 0, .int .u64 0]) zb_25 rfl rfl fun b7 => ?_)
    refine GL.step (ot_store (k := 0) rfl rfl rfl rfl sz_25 rfl rfl (by first | ((simp only [repl, List.set_cons_zero, List.set_cons_succ]) <;> rfl) | rfl) ?_)
    refine GL.val (rv_assign rfl) rfl ?_
    refine GL.nil ?_
    refine GX.then ?_
    refine GC.seq ?_
    refine GC.reg ?_
    refine GL.val (rv_loadAL ag_25 rfl (by first | exact Hd.cellsAll (k := 3) rfl | exact Hd.cells (k := 3) rfl rfl) (by exact sz_25) (by first | (first | exact qc_len hd) | rfl)) rfl ?_
    refine GL.val (rv_move rfl) rfl ?_
    refine GL.val (rv_loadAL ag_29 rfl (by first | exact Hd.cellsAll (k := 2) rfl | exact Hd.cells (k := 2) rfl rfl) (by exact sz_29) (by first | (first | exact qc_len hd) | rfl)) rfl ?_
    refine GL.step (ot_call hb_11 rfl (callOk fun w hh => rnext_c hv cn ck cA cc cs kd qn qk qA qc dg w (hh.rd0n hck) hcc (by omega) hd hqs (hh.rd0n hqk) hqc (by omega)) rfl fun _ _ => ?_)
    refine GL.val (rv_move rfl) rfl ?_
    refine GL.val (rv_extract rfl rfl) rfl ?_
    refine GL.val (rv_extract rfl rfl) rfl ?_
    refine GL.step (ot_alloc (zs := [.string ByteArray.empty, .slice none 0 0, .int .u64 0]) zb_25 rfl rfl fun b9 => ?_)
    refine GL.step (ot_store (k := 0) rfl rfl rfl rfl sz_25 rfl rfl (by first | ((simp only [repl, List.set_cons_zero, List.set_cons_succ]) <;> rfl) | rfl) ?_)
    refine GL.val (rv_assign rfl) rfl ?_
    refine GL.nil ?_
    refine GX.then ?_
    refine GC.seq ?_
    refine GC.reg ?_
    refine GL.val (rv_move rfl) rfl ?_
    refine GL.val (rv_move rfl) rfl ?_
    refine GL.val (rv_to (v' := .bool true) (rv_eqI rfl rfl) (by simp)) rfl ?_
    refine GL.val (rv_move rfl) rfl ?_
    first | refine GL.skipG rfl rfl ?_ | refine GL.skipU rfl rfl ?_ | refine GL.valT rfl (rv_loadAL ag_25 rfl (by first | exact Hd.cellsAll (k := 1) rfl | exact Hd.cells (k := 1) rfl rfl) (by exact sz_25) (by first | (first | exact qc_len hd) | rfl)) rfl ?_ | refine GL.valG rfl (fun hb => rv_loadAL ag_25 (by first | exact evb rfl hb | rfl) (by first | exact Hd.cellsAll (k := 1) (by first | exact evb rfl hb | rfl) | exact Hd.cells (k := 1) (by first | exact evb rfl hb | rfl) (by first | exact evb rfl hb | rfl)) (by exact sz_25) (by first | (first | exact qc_len hd) | rfl)) rfl ?_
    first | refine GL.skipG rfl rfl ?_ | refine GL.skipU rfl rfl ?_ | refine GL.valT rfl (rv_loadAL ag_25 rfl (by first | exact Hd.cellsAll (k := 0) rfl | exact Hd.cells (k := 0) rfl rfl) (by exact sz_25) (by first | (first | exact qc_len hd) | rfl)) rfl ?_ | refine GL.valG rfl (fun hb => rv_loadAL ag_25 (by first | exact evb rfl hb | rfl) (by first | exact Hd.cellsAll (k := 0) (by first | exact evb rfl hb | rfl) | exact Hd.cells (k := 0) (by first | exact evb rfl hb | rfl) (by first | exact evb rfl hb | rfl)) (by exact sz_25) (by first | (first | exact qc_len hd) | rfl)) rfl ?_
    first | refine GL.skipG rfl rfl ?_ | refine GL.skipU rfl rfl ?_ | refine GL.stepG rfl (ot_call hb_12 rfl (callOk fun w hh => sbind_t _ _ _ _ _ _ _ w (hh.ro (k := 2) rfl) (rg_slr (hh.rd0n hqk))) rfl fun _ _ => ?_)
    refine GL.val ((by first | exact rv_andT rfl rfl rfl | exact rv_andF rfl rfl rfl | exact rv_pickAnd rfl rfl rfl)) rfl ?_
    refine GL.val (rv_move rfl) rfl ?_
    first | refine GL.skipG rfl rfl ?_ | refine GL.skipU rfl rfl ?_ | refine GL.stepG rfl (ot_call hb_9 rfl (callOk fun w hh => hwk w) rfl fun _ _ => ?_)
    refine GL.val ((by first | exact rv_andT rfl rfl rfl | exact rv_andF rfl rfl rfl | exact rv_pickAnd rfl rfl rfl)) rfl ?_
    refine GL.val (rv_assign rfl) rfl ?_
    refine GL.nil ?_
    refine GX.then ?_
    refine GC.ret ?_
    refine GX.ret1 rfl (RR.tmp rfl) ?_
    exact fun w9 h => ⟨(), rfl, by
        have h := h.sel [] rfl rfl
        exact h, trivial⟩
theorem wk1 : nxt false ByteArray.empty [] 0 1 (⟨#[97, 110, 110]⟩ : ByteArray) [107] zdg = 0 := by decide +kernel
theorem wk2 : nxt true (⟨#[97, 110, 110]⟩ : ByteArray) [107] 1 1 (⟨#[97, 110, 110]⟩ : ByteArray) [107] zdg = 6 := by decide +kernel
theorem wk3 : nxt true (⟨#[97, 110, 110]⟩ : ByteArray) [107] 1 2 (⟨#[97, 110, 110]⟩ : ByteArray) [108] (auth [107] (⟨#[97, 110, 110]⟩ : ByteArray) (1 + 1) [108]) = 0 := by
  unfold nxt
  rw [if_neg (by decide +kernel), if_neg (by decide +kernel), if_neg (by decide), if_neg (by decide), if_neg (by decide), if_neg (fun h => h rfl)]
set_option maxRecDepth 100000 in
set_option maxHeartbeats 1000000 in
theorem works3_c (w : World) : Calls Try.prog 9 [].toArray w fun e w' => ∃ _g : Unit, e = .returned (.bool true) ∧ St noB w w' [] ∧ True := by
  refine GC.calls Try.func9 rfl rfl (St.begin _) ?_
  refine GC.seq ?_
  refine GC.reg ?_
  refine GL.val (rv_assign rfl) rfl ?_
  refine GL.nil ?_
  refine GX.then ?_
  refine GC.seq ?_
  refine GC.reg ?_
  refine GL.val (rv_to (v' := .agg (bcell ByteArray.empty [] none 0 0).toArray) (rv_buildS pl_25 zb_25 rfl rfl rfl) rfl) rfl ?_
  refine GL.step (ot_buildSlice ei_22 rfl rfl rfl rfl rfl rfl fun b9 => ?_)
  refine GL.step (ot_mark (k := 0) Try.underlying22 Try.underlying5 rfl rfl rfl ?_)
  refine GL.val (rv_to (v' := .agg (qcell 1 (⟨#[97, 110, 110]⟩ : ByteArray) [107] (some ⟨b9, 0, none⟩) 1 zdg).toArray) (rv_buildS pl_29 zb_29 rfl rfl rfl) rfl) rfl ?_
  refine GL.step (ot_call hb_10 rfl (callOk fun w hh => next_c false ByteArray.empty [] none 0 0 1 (⟨#[97, 110, 110]⟩ : ByteArray) [107] (some ⟨b9, 0, none⟩) 1 zdg w (.inl rfl) (Nat.le_refl _) (by decide) zdg_len (by decide) (hh.ro (k := 0) rfl) (Nat.le_refl 1) (by decide)) rfl fun g12 h12 => ?_)
  rw [wk1]
  simp only [rn_0, rk_0, rs_0]
  rw [wk1] at h12
  refine GL.val (rv_move rfl) rfl ?_
  refine GL.val (rv_extract rfl rfl) rfl ?_
  refine GL.val (rv_extract rfl rfl) rfl ?_
  refine GL.step (ot_alloc (zs := [.string ByteArray.empty, .slice none 0 0, .int .u64 0]) zb_25 rfl rfl fun b1 => ?_)
  refine GL.step (ot_store (k := 0) rfl rfl rfl rfl sz_25 rfl rfl (by first | ((simp only [repl, List.set_cons_zero, List.set_cons_succ]) <;> rfl) | rfl) ?_)
  refine GL.val (rv_assign rfl) rfl ?_
  refine GL.nil ?_
  refine GX.then ?_
  refine GC.seq ?_
  refine GC.reg ?_
  refine GL.val (rv_loadA ag_25 rfl (by first | exact Hd.cellsAll (k := 0) rfl | exact Hd.cells (k := 0) rfl rfl) (by exact sz_25)) rfl ?_
  refine GL.step (ot_buildSlice ei_22 rfl rfl rfl rfl rfl rfl fun b17 => ?_)
  refine GL.step (ot_mark (k := 0) Try.underlying22 Try.underlying5 rfl rfl rfl ?_)
  refine GL.val (rv_to (v' := .agg (qcell 1 (⟨#[97, 110, 110]⟩ : ByteArray) [107] (some ⟨b17, 0, none⟩) 1 zdg).toArray) (rv_buildS pl_29 zb_29 rfl rfl rfl) rfl) rfl ?_
  refine GL.step (ot_call hb_10 rfl (callOk fun w hh => next_c true (⟨#[97, 110, 110]⟩ : ByteArray) [107] g12.1 g12.2 1 1 (⟨#[97, 110, 110]⟩ : ByteArray) [107] (some ⟨b17, 0, none⟩) 1 zdg w (hh.ro (k := 2) rfl) h12 (by decide) zdg_len (by decide) (hh.ro (k := 0) rfl) (Nat.le_refl 1) (by decide)) rfl fun g20 h20 => ?_)
  rw [wk2]
  refine GL.val (rv_move rfl) rfl ?_
  refine GL.val (rv_extract rfl rfl) rfl ?_
  refine GL.val (rv_extract rfl rfl) rfl ?_
  refine GL.step (ot_alloc (zs := [.string ByteArray.empty, .slice none 0 0, .int .u64 0]) zb_25 rfl rfl fun b3 => ?_)
  refine GL.step (ot_store (k := 0) rfl rfl rfl rfl sz_25 rfl rfl (by first | ((simp only [repl, List.set_cons_zero, List.set_cons_succ]) <;> rfl) | rfl) ?_)
  refine GL.val (rv_assign rfl) rfl ?_
  refine GL.nil ?_
  refine GX.then ?_
  refine GC.seq ?_
  refine GC.draw 10 [0, 1, 2, 3, 4, 5] mo_ ?_
  refine GD.read (i := 0) rfl (rv_loadA ag_25 rfl (by first | exact Hd.cellsAll (k := 3) rfl | exact Hd.cells (k := 3) rfl rfl) (by exact sz_25)) (by kernel_rfl) (by repeat (first | exact noPanicPut_body | exact noPanicPut_cut | exact noPanicPut_cutE | refine noPanicPut_then ?_ | refine noPanicPut_blk ?_)) ?_
  refine GD.read (i := 1) rfl (rv_loadA ag_25 rfl (by first | exact Hd.cellsAll (k := 3) rfl | exact Hd.cells (k := 3) rfl rfl) (by exact sz_25)) (by kernel_rfl) (by repeat (first | exact noPanicPut_body | exact noPanicPut_cut | exact noPanicPut_cutE | refine noPanicPut_then ?_ | refine noPanicPut_blk ?_)) ?_
  refine GD.eachN2 (i := 2) (j := 9) (by kernel_rfl) rfl rfl ?_ ?_
  · refine ot_buildSlice ei_22 rfl rfl rfl rfl rfl rfl fun b26 => ⟨.inr fun _ h => h.pk [1, 2, 3, 4, 5, 6], ?_⟩
    refine GD.eachN2 (i := 3) (j := 9) (by kernel_rfl) rfl rfl ?_ ?_
    · refine ot_mark (k := 0) Try.underlying22 Try.underlying5 rfl rfl rfl ⟨.inr fun _ h => h.pk [1, 2, 3, 4, 5, 6], ?_⟩
      refine GD.eachN2 (i := 4) (j := 9) (by kernel_rfl) rfl rfl ?_ ?_
      · refine ot_call hb_13 rfl (callOk fun w hh => ask_c (⟨#[97, 110, 110]⟩ : ByteArray) [107] g12.1 g12.2 1 [108] (some ⟨b26, 0, none⟩) 1 w (hh.ro (k := 5) rfl) h12 (by decide) (by decide) (hh.ro (k := 0) rfl) (Nat.le_refl 1) (by decide)) rfl fun g28 h28 => ⟨.inr fun _ h => h.pk [2, 3, 4, 5, 6, 7], ?_⟩
        refine GD.eachN2 (i := 5) (j := 9) (by kernel_rfl) rfl rfl ?_ ?_
        · refine ot_call hb_10 rfl (callOk fun w hh => next_c true (⟨#[97, 110, 110]⟩ : ByteArray) [107] g12.1 g12.2 1 2 (⟨#[97, 110, 110]⟩ : ByteArray) [108] g28.1 g28.2 (auth [107] (⟨#[97, 110, 110]⟩ : ByteArray) (1 + 1) [108]) w (hh.ro (k := 6) rfl) h12 (by decide) (auth_len _ _ _ _) (by decide) (hh.ro (k := 0) rfl) h28 (by decide)) rfl fun g29 h29 => ⟨.inr fun _ h => h.pk [3, 4, 5, 6, 7, 8], ?_⟩
          rw [wk3]
          simp only [rn_0, rk_0, rs_0]
          refine GD.pure (i := 6) rfl (fun _ _ => rv_move rfl) (by kernel_rfl) (by repeat (first | exact noPanicPut_body | exact noPanicPut_cut | exact noPanicPut_cutE | refine noPanicPut_then ?_ | refine noPanicPut_blk ?_)) ?_
          refine GD.pure (i := 7) rfl (fun _ _ => rv_extract rfl rfl) (by kernel_rfl) (by repeat (first | exact noPanicPut_body | exact noPanicPut_cut | exact noPanicPut_cutE | refine noPanicPut_then ?_ | refine noPanicPut_blk ?_)) ?_
          refine GD.pure (i := 8) rfl (fun _ _ => rv_extract rfl rfl) (by kernel_rfl) (by repeat (first | exact noPanicPut_body | exact noPanicPut_cut | exact noPanicPut_cutE | refine noPanicPut_then ?_ | refine noPanicPut_blk ?_)) ?_
          refine GD.step (i := 9) (by kernel_rfl) rfl (ot_alloc (zs := [.string ByteArray.empty, .slice none 0 0, .int .u64 0]) zb_25 rfl rfl fun b5 => ⟨.inr fun _ h => h.pk [4, 5, 6, 7, 8, 9], ?_⟩)
          refine GD.step (i := 10) (by kernel_rfl) rfl (ot_store (k := 0) rfl rfl rfl rfl sz_25 rfl rfl (by first | ((simp only [repl, List.set_cons_zero, List.set_cons_succ]) <;> rfl) | rfl) ⟨.inl rfl, ?_⟩)
          refine GD.pure (i := 11) rfl (fun _ _ => rv_assign rfl) (by kernel_rfl) (by repeat (first | exact noPanicPut_body | exact noPanicPut_cut | exact noPanicPut_cutE | refine noPanicPut_then ?_ | refine noPanicPut_blk ?_)) ?_
          refine GD.done (by kernel_rfl) ?_
          refine GX.then ?_
          refine GC.seq ?_
          refine GC.reg ?_
          refine GL.val (rv_move rfl) rfl ?_
          refine GL.val (rv_to (v' := .bool true) (rv_eqI rfl rfl) (by simp)) rfl ?_
          refine GL.val (rv_move rfl) rfl ?_
          first | refine GL.skipG rfl rfl ?_ | refine GL.skipU rfl rfl ?_ | refine GL.valT rfl (rv_field fo_25_2 rfl rfl) rfl ?_ | refine GL.valG rfl (fun hb => rv_field fo_25_2 (by first | exact evb rfl hb | rfl) (by first | exact evb rfl hb | rfl)) rfl ?_
          first | refine GL.skipG rfl rfl ?_ | refine GL.skipU rfl rfl ?_ | refine GL.valT rfl (rv_load ag_23 rfl (by first | exact Hd.cell (k := 7) rfl rfl | exact Hd.rowCell (k := 7) rfl (by assumption))) rfl ?_ | refine GL.valG rfl (fun hb => rv_load ag_23 (by first | exact evb rfl hb | rfl) (by first | exact Hd.cell (k := 7) (by first | exact evb rfl hb | rfl) (by first | exact evb rfl hb | rfl) | exact Hd.rowCell (k := 7) (by first | exact evb rfl hb | rfl) (by assumption))) rfl ?_
          first | refine GL.skipG rfl rfl ?_ | refine GL.skipU rfl rfl ?_ | refine GL.valT rfl (rv_to (v' := .bool true) (rv_eq64 (b := 1) rfl rfl) (by exact congrArg Value.bool (by decide))) rfl ?_ | refine GL.valG rfl (fun hb => rv_to (v' := .bool true) (rv_eq64 (b := 1) (by first | exact evb rfl hb | rfl) (by first | exact evb rfl hb | rfl)) (by exact congrArg Value.bool (by decide))) rfl ?_
          refine GL.val ((by first | exact rv_andT rfl rfl rfl | exact rv_andF rfl rfl rfl | exact rv_pickAnd rfl rfl rfl)) rfl ?_
          refine GL.val (rv_move rfl) rfl ?_
          first | refine GL.skipG rfl rfl ?_ | refine GL.skipU rfl rfl ?_ | refine GL.valT rfl (rv_move rfl) rfl ?_ | refine GL.valG rfl (fun hb => rv_move (by first | exact evb rfl hb | rfl)) rfl ?_
          first | refine GL.skipG rfl rfl ?_ | refine GL.skipU rfl rfl ?_ | refine GL.valT rfl (rv_to (v' := .bool true) (rv_eqI rfl rfl) (by simp)) rfl ?_ | refine GL.valG rfl (fun hb => rv_to (v' := .bool true) (rv_eqI (by first | exact evb rfl hb | rfl) (by first | exact evb rfl hb | rfl)) (by simp)) rfl ?_
          refine GL.val ((by first | exact rv_andT rfl rfl rfl | exact rv_andF rfl rfl rfl | exact rv_pickAnd rfl rfl rfl)) rfl ?_
          refine GL.val (rv_move rfl) rfl ?_
          first | refine GL.skipG rfl rfl ?_ | refine GL.skipU rfl rfl ?_ | refine GL.valT rfl (rv_move rfl) rfl ?_ | refine GL.valG rfl (fun hb => rv_move (by first | exact evb rfl hb | rfl)) rfl ?_
          first | refine GL.skipG rfl rfl ?_ | refine GL.skipU rfl rfl ?_ | refine GL.valT rfl (rv_to (v' := .bool true) (rv_eqI rfl rfl) (by simp)) rfl ?_ | refine GL.valG rfl (fun hb => rv_to (v' := .bool true) (rv_eqI (by first | exact evb rfl hb | rfl) (by first | exact evb rfl hb | rfl)) (by simp)) rfl ?_
          refine GL.val ((by first | exact rv_andT rfl rfl rfl | exact rv_andF rfl rfl rfl | exact rv_pickAnd rfl rfl rfl)) rfl ?_
          refine GL.val (rv_move rfl) rfl ?_
          first | refine GL.skipG rfl rfl ?_ | refine GL.skipU rfl rfl ?_ | refine GL.valT rfl (rv_field fo_25_2 rfl rfl) rfl ?_ | refine GL.valG rfl (fun hb => rv_field fo_25_2 (by first | exact evb rfl hb | rfl) (by first | exact evb rfl hb | rfl)) rfl ?_
          first | refine GL.skipG rfl rfl ?_ | refine GL.skipU rfl rfl ?_ | refine GL.valT rfl (rv_load ag_23 rfl (by first | exact Hd.cell (k := 0) rfl rfl | exact Hd.rowCell (k := 0) rfl (by assumption))) rfl ?_ | refine GL.valG rfl (fun hb => rv_load ag_23 (by first | exact evb rfl hb | rfl) (by first | exact Hd.cell (k := 0) (by first | exact evb rfl hb | rfl) (by first | exact evb rfl hb | rfl) | exact Hd.rowCell (k := 0) (by first | exact evb rfl hb | rfl) (by assumption))) rfl ?_
          first | refine GL.skipG rfl rfl ?_ | refine GL.skipU rfl rfl ?_ | refine GL.valT rfl (rv_to (v' := .bool true) (rv_eq64 (b := 2) rfl rfl) (by exact congrArg Value.bool (by decide))) rfl ?_ | refine GL.valG rfl (fun hb => rv_to (v' := .bool true) (rv_eq64 (b := 2) (by first | exact evb rfl hb | rfl) (by first | exact evb rfl hb | rfl)) (by exact congrArg Value.bool (by decide))) rfl ?_
          refine GL.val ((by first | exact rv_andT rfl rfl rfl | exact rv_andF rfl rfl rfl | exact rv_pickAnd rfl rfl rfl)) rfl ?_
          refine GL.val (rv_move rfl) rfl ?_
          first | refine GL.skipG rfl rfl ?_ | refine GL.skipU rfl rfl ?_ | refine GL.valT rfl (rv_field fo_25_1 rfl rfl) rfl ?_ | refine GL.valG rfl (fun hb => rv_field fo_25_1 (by first | exact evb rfl hb | rfl) (by first | exact evb rfl hb | rfl)) rfl ?_
          first | refine GL.skipG rfl rfl ?_ | refine GL.skipU rfl rfl ?_ | refine GL.valT rfl (rv_load ag_22 rfl (by first | exact Hd.cell (k := 0) rfl rfl | exact Hd.rowCell (k := 0) rfl (by assumption))) rfl ?_ | refine GL.valG rfl (fun hb => rv_load ag_22 (by first | exact evb rfl hb | rfl) (by first | exact Hd.cell (k := 0) (by first | exact evb rfl hb | rfl) (by first | exact evb rfl hb | rfl) | exact Hd.rowCell (k := 0) (by first | exact evb rfl hb | rfl) (by assumption))) rfl ?_
          first | refine GL.skipG rfl rfl ?_ | refine GL.skipU rfl rfl ?_ | refine GL.valT rfl (rv_convBS (b := [108]) Try.underlying22 Try.underlying5 Try.underlying9 rfl (fun w h => h.ro (k := 1) rfl) rfl) rfl ?_ | refine GL.valG rfl (fun hb => rv_convBS (b := [108]) Try.underlying22 Try.underlying5 Try.underlying9 (by first | exact evb rfl hb | rfl) (fun w h => h.ro (k := 1) (by first | exact evb rfl hb | rfl)) (by first | exact evb rfl hb | rfl)) rfl ?_
          first | refine GL.skipG rfl rfl ?_ | refine GL.skipU rfl rfl ?_ | refine GL.valT rfl (rv_to (v' := .bool true) (rv_eqS rfl rfl) (by exact congrArg Value.bool (decide_eq_true rfl))) rfl ?_ | refine GL.valG rfl (fun hb => rv_to (v' := .bool true) (rv_eqS (by first | exact evb rfl hb | rfl) (by first | exact evb rfl hb | rfl)) (by exact congrArg Value.bool (decide_eq_true (by first | exact evb rfl hb | rfl)))) rfl ?_
          refine GL.val ((by first | exact rv_andT rfl rfl rfl | exact rv_andF rfl rfl rfl | exact rv_pickAnd rfl rfl rfl)) rfl ?_
          refine GL.val (rv_assign rfl) rfl ?_
          refine GL.nil ?_
          refine GX.then ?_
          refine GC.ret ?_
          refine GX.ret1 rfl (RR.tmp rfl) ?_
          exact fun w9 h => ⟨(), rfl, by
              have h := h.sel [] rfl rfl
              exact h, trivial⟩
        · refine ot_alloc (zs := [.string ByteArray.empty, .slice none 0 0, .int .u64 0]) zb_25 rfl rfl fun b5 => ⟨.inr fun _ h => h.pk [3, 4, 5, 6, 7, 8], ?_⟩
          refine GD.step (i := 5) (by kernel_rfl) rfl (ot_call hb_10 rfl (callOk fun w hh => next_c true (⟨#[97, 110, 110]⟩ : ByteArray) [107] g12.1 g12.2 1 2 (⟨#[97, 110, 110]⟩ : ByteArray) [108] g28.1 g28.2 (auth [107] (⟨#[97, 110, 110]⟩ : ByteArray) (1 + 1) [108]) w (hh.ro (k := 7) rfl) h12 (by decide) (auth_len _ _ _ _) (by decide) (hh.ro (k := 1) rfl) h28 (by decide)) rfl fun g29 h29 => ⟨.inr fun _ h => h.pk [4, 5, 6, 7, 8, 9], ?_⟩)
          rw [wk3]
          simp only [rn_0, rk_0, rs_0]
          refine GD.pure (i := 6) rfl (fun _ _ => rv_move rfl) (by kernel_rfl) (by repeat (first | exact noPanicPut_body | exact noPanicPut_cut | exact noPanicPut_cutE | refine noPanicPut_then ?_ | refine noPanicPut_blk ?_)) ?_
          refine GD.pure (i := 7) rfl (fun _ _ => rv_extract rfl rfl) (by kernel_rfl) (by repeat (first | exact noPanicPut_body | exact noPanicPut_cut | exact noPanicPut_cutE | refine noPanicPut_then ?_ | refine noPanicPut_blk ?_)) ?_
          refine GD.pure (i := 8) rfl (fun _ _ => rv_extract rfl rfl) (by kernel_rfl) (by repeat (first | exact noPanicPut_body | exact noPanicPut_cut | exact noPanicPut_cutE | refine noPanicPut_then ?_ | refine noPanicPut_blk ?_)) ?_
          refine GD.step (i := 10) (by kernel_rfl) rfl (ot_store (k := 1) rfl rfl rfl rfl sz_25 rfl rfl (by first | ((simp only [repl, List.set_cons_zero, List.set_cons_succ]) <;> rfl) | rfl) ⟨.inl rfl, ?_⟩)
          refine GD.pure (i := 11) rfl (fun _ _ => rv_assign rfl) (by kernel_rfl) (by repeat (first | exact noPanicPut_body | exact noPanicPut_cut | exact noPanicPut_cutE | refine noPanicPut_then ?_ | refine noPanicPut_blk ?_)) ?_
          refine GD.done (by kernel_rfl) ?_
          refine GX.then ?_
          refine GC.seq ?_
          refine GC.reg ?_
          refine GL.val (rv_move rfl) rfl ?_
          refine GL.val (rv_to (v' := .bool true) (rv_eqI rfl rfl) (by simp)) rfl ?_
          refine GL.val (rv_move rfl) rfl ?_
          first | refine GL.skipG rfl rfl ?_ | refine GL.skipU rfl rfl ?_ | refine GL.valT rfl (rv_field fo_25_2 rfl rfl) rfl ?_ | refine GL.valG rfl (fun hb => rv_field fo_25_2 (by first | exact evb rfl hb | rfl) (by first | exact evb rfl hb | rfl)) rfl ?_
          first | refine GL.skipG rfl rfl ?_ | refine GL.skipU rfl rfl ?_ | refine GL.valT rfl (rv_load ag_23 rfl (by first | exact Hd.cell (k := 7) rfl rfl | exact Hd.rowCell (k := 7) rfl (by assumption))) rfl ?_ | refine GL.valG rfl (fun hb => rv_load ag_23 (by first | exact evb rfl hb | rfl) (by first | exact Hd.cell (k := 7) (by first | exact evb rfl hb | rfl) (by first | exact evb rfl hb | rfl) | exact Hd.rowCell (k := 7) (by first | exact evb rfl hb | rfl) (by assumption))) rfl ?_
          first | refine GL.skipG rfl rfl ?_ | refine GL.skipU rfl rfl ?_ | refine GL.valT rfl (rv_to (v' := .bool true) (rv_eq64 (b := 1) rfl rfl) (by exact congrArg Value.bool (by decide))) rfl ?_ | refine GL.valG rfl (fun hb => rv_to (v' := .bool true) (rv_eq64 (b := 1) (by first | exact evb rfl hb | rfl) (by first | exact evb rfl hb | rfl)) (by exact congrArg Value.bool (by decide))) rfl ?_
          refine GL.val ((by first | exact rv_andT rfl rfl rfl | exact rv_andF rfl rfl rfl | exact rv_pickAnd rfl rfl rfl)) rfl ?_
          refine GL.val (rv_move rfl) rfl ?_
          first | refine GL.skipG rfl rfl ?_ | refine GL.skipU rfl rfl ?_ | refine GL.valT rfl (rv_move rfl) rfl ?_ | refine GL.valG rfl (fun hb => rv_move (by first | exact evb rfl hb | rfl)) rfl ?_
          first | refine GL.skipG rfl rfl ?_ | refine GL.skipU rfl rfl ?_ | refine GL.valT rfl (rv_to (v' := .bool true) (rv_eqI rfl rfl) (by simp)) rfl ?_ | refine GL.valG rfl (fun hb => rv_to (v' := .bool true) (rv_eqI (by first | exact evb rfl hb | rfl) (by first | exact evb rfl hb | rfl)) (by simp)) rfl ?_
          refine GL.val ((by first | exact rv_andT rfl rfl rfl | exact rv_andF rfl rfl rfl | exact rv_pickAnd rfl rfl rfl)) rfl ?_
          refine GL.val (rv_move rfl) rfl ?_
          first | refine GL.skipG rfl rfl ?_ | refine GL.skipU rfl rfl ?_ | refine GL.valT rfl (rv_move rfl) rfl ?_ | refine GL.valG rfl (fun hb => rv_move (by first | exact evb rfl hb | rfl)) rfl ?_
          first | refine GL.skipG rfl rfl ?_ | refine GL.skipU rfl rfl ?_ | refine GL.valT rfl (rv_to (v' := .bool true) (rv_eqI rfl rfl) (by simp)) rfl ?_ | refine GL.valG rfl (fun hb => rv_to (v' := .bool true) (rv_eqI (by first | exact evb rfl hb | rfl) (by first | exact evb rfl hb | rfl)) (by simp)) rfl ?_
          refine GL.val ((by first | exact rv_andT rfl rfl rfl | exact rv_andF rfl rfl rfl | exact rv_pickAnd rfl rfl rfl)) rfl ?_
          refine GL.val (rv_move rfl) rfl ?_
          first | refine GL.skipG rfl rfl ?_ | refine GL.skipU rfl rfl ?_ | refine GL.valT rfl (rv_field fo_25_2 rfl rfl) rfl ?_ | refine GL.valG rfl (fun hb => rv_field fo_25_2 (by first | exact evb rfl hb | rfl) (by first | exact evb rfl hb | rfl)) rfl ?_
          first | refine GL.skipG rfl rfl ?_ | refine GL.skipU rfl rfl ?_ | refine GL.valT rfl (rv_load ag_23 rfl (by first | exact Hd.cell (k := 1) rfl rfl | exact Hd.rowCell (k := 1) rfl (by assumption))) rfl ?_ | refine GL.valG rfl (fun hb => rv_load ag_23 (by first | exact evb rfl hb | rfl) (by first | exact Hd.cell (k := 1) (by first | exact evb rfl hb | rfl) (by first | exact evb rfl hb | rfl) | exact Hd.rowCell (k := 1) (by first | exact evb rfl hb | rfl) (by assumption))) rfl ?_
          first | refine GL.skipG rfl rfl ?_ | refine GL.skipU rfl rfl ?_ | refine GL.valT rfl (rv_to (v' := .bool true) (rv_eq64 (b := 2) rfl rfl) (by exact congrArg Value.bool (by decide))) rfl ?_ | refine GL.valG rfl (fun hb => rv_to (v' := .bool true) (rv_eq64 (b := 2) (by first | exact evb rfl hb | rfl) (by first | exact evb rfl hb | rfl)) (by exact congrArg Value.bool (by decide))) rfl ?_
          refine GL.val ((by first | exact rv_andT rfl rfl rfl | exact rv_andF rfl rfl rfl | exact rv_pickAnd rfl rfl rfl)) rfl ?_
          refine GL.val (rv_move rfl) rfl ?_
          first | refine GL.skipG rfl rfl ?_ | refine GL.skipU rfl rfl ?_ | refine GL.valT rfl (rv_field fo_25_1 rfl rfl) rfl ?_ | refine GL.valG rfl (fun hb => rv_field fo_25_1 (by first | exact evb rfl hb | rfl) (by first | exact evb rfl hb | rfl)) rfl ?_
          first | refine GL.skipG rfl rfl ?_ | refine GL.skipU rfl rfl ?_ | refine GL.valT rfl (rv_load ag_22 rfl (by first | exact Hd.cell (k := 1) rfl rfl | exact Hd.rowCell (k := 1) rfl (by assumption))) rfl ?_ | refine GL.valG rfl (fun hb => rv_load ag_22 (by first | exact evb rfl hb | rfl) (by first | exact Hd.cell (k := 1) (by first | exact evb rfl hb | rfl) (by first | exact evb rfl hb | rfl) | exact Hd.rowCell (k := 1) (by first | exact evb rfl hb | rfl) (by assumption))) rfl ?_
          first | refine GL.skipG rfl rfl ?_ | refine GL.skipU rfl rfl ?_ | refine GL.valT rfl (rv_convBS (b := [108]) Try.underlying22 Try.underlying5 Try.underlying9 rfl (fun w h => h.ro (k := 0) rfl) rfl) rfl ?_ | refine GL.valG rfl (fun hb => rv_convBS (b := [108]) Try.underlying22 Try.underlying5 Try.underlying9 (by first | exact evb rfl hb | rfl) (fun w h => h.ro (k := 0) (by first | exact evb rfl hb | rfl)) (by first | exact evb rfl hb | rfl)) rfl ?_
          first | refine GL.skipG rfl rfl ?_ | refine GL.skipU rfl rfl ?_ | refine GL.valT rfl (rv_to (v' := .bool true) (rv_eqS rfl rfl) (by exact congrArg Value.bool (decide_eq_true rfl))) rfl ?_ | refine GL.valG rfl (fun hb => rv_to (v' := .bool true) (rv_eqS (by first | exact evb rfl hb | rfl) (by first | exact evb rfl hb | rfl)) (by exact congrArg Value.bool (decide_eq_true (by first | exact evb rfl hb | rfl)))) rfl ?_
          refine GL.val ((by first | exact rv_andT rfl rfl rfl | exact rv_andF rfl rfl rfl | exact rv_pickAnd rfl rfl rfl)) rfl ?_
          refine GL.val (rv_assign rfl) rfl ?_
          refine GL.nil ?_
          refine GX.then ?_
          refine GC.ret ?_
          refine GX.ret1 rfl (RR.tmp rfl) ?_
          exact fun w9 h => ⟨(), rfl, by
              have h := h.sel [] rfl rfl
              exact h, trivial⟩
      · refine ot_alloc (zs := [.string ByteArray.empty, .slice none 0 0, .int .u64 0]) zb_25 rfl rfl fun b5 => ⟨.inr fun _ h => h.pk [2, 3, 4, 5, 6, 7], ?_⟩
        refine GD.step (i := 4) (by kernel_rfl) rfl (ot_call hb_13 rfl (callOk fun w hh => ask_c (⟨#[97, 110, 110]⟩ : ByteArray) [107] g12.1 g12.2 1 [108] (some ⟨b26, 0, none⟩) 1 w (hh.ro (k := 6) rfl) h12 (by decide) (by decide) (hh.ro (k := 1) rfl) (Nat.le_refl 1) (by decide)) rfl fun g28 h28 => ⟨.inr fun _ h => h.pk [3, 4, 5, 6, 7, 8], ?_⟩)
        refine GD.step (i := 5) (by kernel_rfl) rfl (ot_call hb_10 rfl (callOk fun w hh => next_c true (⟨#[97, 110, 110]⟩ : ByteArray) [107] g12.1 g12.2 1 2 (⟨#[97, 110, 110]⟩ : ByteArray) [108] g28.1 g28.2 (auth [107] (⟨#[97, 110, 110]⟩ : ByteArray) (1 + 1) [108]) w (hh.ro (k := 7) rfl) h12 (by decide) (auth_len _ _ _ _) (by decide) (hh.ro (k := 0) rfl) h28 (by decide)) rfl fun g29 h29 => ⟨.inr fun _ h => h.pk [4, 5, 6, 7, 8, 9], ?_⟩)
        rw [wk3]
        simp only [rn_0, rk_0, rs_0]
        refine GD.pure (i := 6) rfl (fun _ _ => rv_move rfl) (by kernel_rfl) (by repeat (first | exact noPanicPut_body | exact noPanicPut_cut | exact noPanicPut_cutE | refine noPanicPut_then ?_ | refine noPanicPut_blk ?_)) ?_
        refine GD.pure (i := 7) rfl (fun _ _ => rv_extract rfl rfl) (by kernel_rfl) (by repeat (first | exact noPanicPut_body | exact noPanicPut_cut | exact noPanicPut_cutE | refine noPanicPut_then ?_ | refine noPanicPut_blk ?_)) ?_
        refine GD.pure (i := 8) rfl (fun _ _ => rv_extract rfl rfl) (by kernel_rfl) (by repeat (first | exact noPanicPut_body | exact noPanicPut_cut | exact noPanicPut_cutE | refine noPanicPut_then ?_ | refine noPanicPut_blk ?_)) ?_
        refine GD.step (i := 10) (by kernel_rfl) rfl (ot_store (k := 2) rfl rfl rfl rfl sz_25 rfl rfl (by first | ((simp only [repl, List.set_cons_zero, List.set_cons_succ]) <;> rfl) | rfl) ⟨.inl rfl, ?_⟩)
        refine GD.pure (i := 11) rfl (fun _ _ => rv_assign rfl) (by kernel_rfl) (by repeat (first | exact noPanicPut_body | exact noPanicPut_cut | exact noPanicPut_cutE | refine noPanicPut_then ?_ | refine noPanicPut_blk ?_)) ?_
        refine GD.done (by kernel_rfl) ?_
        refine GX.then ?_
        refine GC.seq ?_
        refine GC.reg ?_
        refine GL.val (rv_move rfl) rfl ?_
        refine GL.val (rv_to (v' := .bool true) (rv_eqI rfl rfl) (by simp)) rfl ?_
        refine GL.val (rv_move rfl) rfl ?_
        first | refine GL.skipG rfl rfl ?_ | refine GL.skipU rfl rfl ?_ | refine GL.valT rfl (rv_field fo_25_2 rfl rfl) rfl ?_ | refine GL.valG rfl (fun hb => rv_field fo_25_2 (by first | exact evb rfl hb | rfl) (by first | exact evb rfl hb | rfl)) rfl ?_
        first | refine GL.skipG rfl rfl ?_ | refine GL.skipU rfl rfl ?_ | refine GL.valT rfl (rv_load ag_23 rfl (by first | exact Hd.cell (k := 7) rfl rfl | exact Hd.rowCell (k := 7) rfl (by assumption))) rfl ?_ | refine GL.valG rfl (fun hb => rv_load ag_23 (by first | exact evb rfl hb | rfl) (by first | exact Hd.cell (k := 7) (by first | exact evb rfl hb | rfl) (by first | exact evb rfl hb | rfl) | exact Hd.rowCell (k := 7) (by first | exact evb rfl hb | rfl) (by assumption))) rfl ?_
        first | refine GL.skipG rfl rfl ?_ | refine GL.skipU rfl rfl ?_ | refine GL.valT rfl (rv_to (v' := .bool true) (rv_eq64 (b := 1) rfl rfl) (by exact congrArg Value.bool (by decide))) rfl ?_ | refine GL.valG rfl (fun hb => rv_to (v' := .bool true) (rv_eq64 (b := 1) (by first | exact evb rfl hb | rfl) (by first | exact evb rfl hb | rfl)) (by exact congrArg Value.bool (by decide))) rfl ?_
        refine GL.val ((by first | exact rv_andT rfl rfl rfl | exact rv_andF rfl rfl rfl | exact rv_pickAnd rfl rfl rfl)) rfl ?_
        refine GL.val (rv_move rfl) rfl ?_
        first | refine GL.skipG rfl rfl ?_ | refine GL.skipU rfl rfl ?_ | refine GL.valT rfl (rv_move rfl) rfl ?_ | refine GL.valG rfl (fun hb => rv_move (by first | exact evb rfl hb | rfl)) rfl ?_
        first | refine GL.skipG rfl rfl ?_ | refine GL.skipU rfl rfl ?_ | refine GL.valT rfl (rv_to (v' := .bool true) (rv_eqI rfl rfl) (by simp)) rfl ?_ | refine GL.valG rfl (fun hb => rv_to (v' := .bool true) (rv_eqI (by first | exact evb rfl hb | rfl) (by first | exact evb rfl hb | rfl)) (by simp)) rfl ?_
        refine GL.val ((by first | exact rv_andT rfl rfl rfl | exact rv_andF rfl rfl rfl | exact rv_pickAnd rfl rfl rfl)) rfl ?_
        refine GL.val (rv_move rfl) rfl ?_
        first | refine GL.skipG rfl rfl ?_ | refine GL.skipU rfl rfl ?_ | refine GL.valT rfl (rv_move rfl) rfl ?_ | refine GL.valG rfl (fun hb => rv_move (by first | exact evb rfl hb | rfl)) rfl ?_
        first | refine GL.skipG rfl rfl ?_ | refine GL.skipU rfl rfl ?_ | refine GL.valT rfl (rv_to (v' := .bool true) (rv_eqI rfl rfl) (by simp)) rfl ?_ | refine GL.valG rfl (fun hb => rv_to (v' := .bool true) (rv_eqI (by first | exact evb rfl hb | rfl) (by first | exact evb rfl hb | rfl)) (by simp)) rfl ?_
        refine GL.val ((by first | exact rv_andT rfl rfl rfl | exact rv_andF rfl rfl rfl | exact rv_pickAnd rfl rfl rfl)) rfl ?_
        refine GL.val (rv_move rfl) rfl ?_
        first | refine GL.skipG rfl rfl ?_ | refine GL.skipU rfl rfl ?_ | refine GL.valT rfl (rv_field fo_25_2 rfl rfl) rfl ?_ | refine GL.valG rfl (fun hb => rv_field fo_25_2 (by first | exact evb rfl hb | rfl) (by first | exact evb rfl hb | rfl)) rfl ?_
        first | refine GL.skipG rfl rfl ?_ | refine GL.skipU rfl rfl ?_ | refine GL.valT rfl (rv_load ag_23 rfl (by first | exact Hd.cell (k := 2) rfl rfl | exact Hd.rowCell (k := 2) rfl (by assumption))) rfl ?_ | refine GL.valG rfl (fun hb => rv_load ag_23 (by first | exact evb rfl hb | rfl) (by first | exact Hd.cell (k := 2) (by first | exact evb rfl hb | rfl) (by first | exact evb rfl hb | rfl) | exact Hd.rowCell (k := 2) (by first | exact evb rfl hb | rfl) (by assumption))) rfl ?_
        first | refine GL.skipG rfl rfl ?_ | refine GL.skipU rfl rfl ?_ | refine GL.valT rfl (rv_to (v' := .bool true) (rv_eq64 (b := 2) rfl rfl) (by exact congrArg Value.bool (by decide))) rfl ?_ | refine GL.valG rfl (fun hb => rv_to (v' := .bool true) (rv_eq64 (b := 2) (by first | exact evb rfl hb | rfl) (by first | exact evb rfl hb | rfl)) (by exact congrArg Value.bool (by decide))) rfl ?_
        refine GL.val ((by first | exact rv_andT rfl rfl rfl | exact rv_andF rfl rfl rfl | exact rv_pickAnd rfl rfl rfl)) rfl ?_
        refine GL.val (rv_move rfl) rfl ?_
        first | refine GL.skipG rfl rfl ?_ | refine GL.skipU rfl rfl ?_ | refine GL.valT rfl (rv_field fo_25_1 rfl rfl) rfl ?_ | refine GL.valG rfl (fun hb => rv_field fo_25_1 (by first | exact evb rfl hb | rfl) (by first | exact evb rfl hb | rfl)) rfl ?_
        first | refine GL.skipG rfl rfl ?_ | refine GL.skipU rfl rfl ?_ | refine GL.valT rfl (rv_load ag_22 rfl (by first | exact Hd.cell (k := 2) rfl rfl | exact Hd.rowCell (k := 2) rfl (by assumption))) rfl ?_ | refine GL.valG rfl (fun hb => rv_load ag_22 (by first | exact evb rfl hb | rfl) (by first | exact Hd.cell (k := 2) (by first | exact evb rfl hb | rfl) (by first | exact evb rfl hb | rfl) | exact Hd.rowCell (k := 2) (by first | exact evb rfl hb | rfl) (by assumption))) rfl ?_
        first | refine GL.skipG rfl rfl ?_ | refine GL.skipU rfl rfl ?_ | refine GL.valT rfl (rv_convBS (b := [108]) Try.underlying22 Try.underlying5 Try.underlying9 rfl (fun w h => h.ro (k := 0) rfl) rfl) rfl ?_ | refine GL.valG rfl (fun hb => rv_convBS (b := [108]) Try.underlying22 Try.underlying5 Try.underlying9 (by first | exact evb rfl hb | rfl) (fun w h => h.ro (k := 0) (by first | exact evb rfl hb | rfl)) (by first | exact evb rfl hb | rfl)) rfl ?_
        first | refine GL.skipG rfl rfl ?_ | refine GL.skipU rfl rfl ?_ | refine GL.valT rfl (rv_to (v' := .bool true) (rv_eqS rfl rfl) (by exact congrArg Value.bool (decide_eq_true rfl))) rfl ?_ | refine GL.valG rfl (fun hb => rv_to (v' := .bool true) (rv_eqS (by first | exact evb rfl hb | rfl) (by first | exact evb rfl hb | rfl)) (by exact congrArg Value.bool (decide_eq_true (by first | exact evb rfl hb | rfl)))) rfl ?_
        refine GL.val ((by first | exact rv_andT rfl rfl rfl | exact rv_andF rfl rfl rfl | exact rv_pickAnd rfl rfl rfl)) rfl ?_
        refine GL.val (rv_assign rfl) rfl ?_
        refine GL.nil ?_
        refine GX.then ?_
        refine GC.ret ?_
        refine GX.ret1 rfl (RR.tmp rfl) ?_
        exact fun w9 h => ⟨(), rfl, by
            have h := h.sel [] rfl rfl
            exact h, trivial⟩
    · refine ot_alloc (zs := [.string ByteArray.empty, .slice none 0 0, .int .u64 0]) zb_25 rfl rfl fun b5 => ⟨.inr fun _ h => h.pk [2, 3, 4, 5, 6, 7], ?_⟩
      refine GD.step (i := 3) (by kernel_rfl) rfl (ot_mark (k := 1) Try.underlying22 Try.underlying5 rfl rfl rfl ⟨.inr fun _ h => h.pk [2, 3, 4, 5, 6, 7], ?_⟩)
      refine GD.step (i := 4) (by kernel_rfl) rfl (ot_call hb_13 rfl (callOk fun w hh => ask_c (⟨#[97, 110, 110]⟩ : ByteArray) [107] g12.1 g12.2 1 [108] (some ⟨b26, 0, none⟩) 1 w (hh.ro (k := 6) rfl) h12 (by decide) (by decide) (hh.ro (k := 1) rfl) (Nat.le_refl 1) (by decide)) rfl fun g28 h28 => ⟨.inr fun _ h => h.pk [3, 4, 5, 6, 7, 8], ?_⟩)
      refine GD.step (i := 5) (by kernel_rfl) rfl (ot_call hb_10 rfl (callOk fun w hh => next_c true (⟨#[97, 110, 110]⟩ : ByteArray) [107] g12.1 g12.2 1 2 (⟨#[97, 110, 110]⟩ : ByteArray) [108] g28.1 g28.2 (auth [107] (⟨#[97, 110, 110]⟩ : ByteArray) (1 + 1) [108]) w (hh.ro (k := 7) rfl) h12 (by decide) (auth_len _ _ _ _) (by decide) (hh.ro (k := 0) rfl) h28 (by decide)) rfl fun g29 h29 => ⟨.inr fun _ h => h.pk [4, 5, 6, 7, 8, 9], ?_⟩)
      rw [wk3]
      simp only [rn_0, rk_0, rs_0]
      refine GD.pure (i := 6) rfl (fun _ _ => rv_move rfl) (by kernel_rfl) (by repeat (first | exact noPanicPut_body | exact noPanicPut_cut | exact noPanicPut_cutE | refine noPanicPut_then ?_ | refine noPanicPut_blk ?_)) ?_
      refine GD.pure (i := 7) rfl (fun _ _ => rv_extract rfl rfl) (by kernel_rfl) (by repeat (first | exact noPanicPut_body | exact noPanicPut_cut | exact noPanicPut_cutE | refine noPanicPut_then ?_ | refine noPanicPut_blk ?_)) ?_
      refine GD.pure (i := 8) rfl (fun _ _ => rv_extract rfl rfl) (by kernel_rfl) (by repeat (first | exact noPanicPut_body | exact noPanicPut_cut | exact noPanicPut_cutE | refine noPanicPut_then ?_ | refine noPanicPut_blk ?_)) ?_
      refine GD.step (i := 10) (by kernel_rfl) rfl (ot_store (k := 2) rfl rfl rfl rfl sz_25 rfl rfl (by first | ((simp only [repl, List.set_cons_zero, List.set_cons_succ]) <;> rfl) | rfl) ⟨.inl rfl, ?_⟩)
      refine GD.pure (i := 11) rfl (fun _ _ => rv_assign rfl) (by kernel_rfl) (by repeat (first | exact noPanicPut_body | exact noPanicPut_cut | exact noPanicPut_cutE | refine noPanicPut_then ?_ | refine noPanicPut_blk ?_)) ?_
      refine GD.done (by kernel_rfl) ?_
      refine GX.then ?_
      refine GC.seq ?_
      refine GC.reg ?_
      refine GL.val (rv_move rfl) rfl ?_
      refine GL.val (rv_to (v' := .bool true) (rv_eqI rfl rfl) (by simp)) rfl ?_
      refine GL.val (rv_move rfl) rfl ?_
      first | refine GL.skipG rfl rfl ?_ | refine GL.skipU rfl rfl ?_ | refine GL.valT rfl (rv_field fo_25_2 rfl rfl) rfl ?_ | refine GL.valG rfl (fun hb => rv_field fo_25_2 (by first | exact evb rfl hb | rfl) (by first | exact evb rfl hb | rfl)) rfl ?_
      first | refine GL.skipG rfl rfl ?_ | refine GL.skipU rfl rfl ?_ | refine GL.valT rfl (rv_load ag_23 rfl (by first | exact Hd.cell (k := 7) rfl rfl | exact Hd.rowCell (k := 7) rfl (by assumption))) rfl ?_ | refine GL.valG rfl (fun hb => rv_load ag_23 (by first | exact evb rfl hb | rfl) (by first | exact Hd.cell (k := 7) (by first | exact evb rfl hb | rfl) (by first | exact evb rfl hb | rfl) | exact Hd.rowCell (k := 7) (by first | exact evb rfl hb | rfl) (by assumption))) rfl ?_
      first | refine GL.skipG rfl rfl ?_ | refine GL.skipU rfl rfl ?_ | refine GL.valT rfl (rv_to (v' := .bool true) (rv_eq64 (b := 1) rfl rfl) (by exact congrArg Value.bool (by decide))) rfl ?_ | refine GL.valG rfl (fun hb => rv_to (v' := .bool true) (rv_eq64 (b := 1) (by first | exact evb rfl hb | rfl) (by first | exact evb rfl hb | rfl)) (by exact congrArg Value.bool (by decide))) rfl ?_
      refine GL.val ((by first | exact rv_andT rfl rfl rfl | exact rv_andF rfl rfl rfl | exact rv_pickAnd rfl rfl rfl)) rfl ?_
      refine GL.val (rv_move rfl) rfl ?_
      first | refine GL.skipG rfl rfl ?_ | refine GL.skipU rfl rfl ?_ | refine GL.valT rfl (rv_move rfl) rfl ?_ | refine GL.valG rfl (fun hb => rv_move (by first | exact evb rfl hb | rfl)) rfl ?_
      first | refine GL.skipG rfl rfl ?_ | refine GL.skipU rfl rfl ?_ | refine GL.valT rfl (rv_to (v' := .bool true) (rv_eqI rfl rfl) (by simp)) rfl ?_ | refine GL.valG rfl (fun hb => rv_to (v' := .bool true) (rv_eqI (by first | exact evb rfl hb | rfl) (by first | exact evb rfl hb | rfl)) (by simp)) rfl ?_
      refine GL.val ((by first | exact rv_andT rfl rfl rfl | exact rv_andF rfl rfl rfl | exact rv_pickAnd rfl rfl rfl)) rfl ?_
      refine GL.val (rv_move rfl) rfl ?_
      first | refine GL.skipG rfl rfl ?_ | refine GL.skipU rfl rfl ?_ | refine GL.valT rfl (rv_move rfl) rfl ?_ | refine GL.valG rfl (fun hb => rv_move (by first | exact evb rfl hb | rfl)) rfl ?_
      first | refine GL.skipG rfl rfl ?_ | refine GL.skipU rfl rfl ?_ | refine GL.valT rfl (rv_to (v' := .bool true) (rv_eqI rfl rfl) (by simp)) rfl ?_ | refine GL.valG rfl (fun hb => rv_to (v' := .bool true) (rv_eqI (by first | exact evb rfl hb | rfl) (by first | exact evb rfl hb | rfl)) (by simp)) rfl ?_
      refine GL.val ((by first | exact rv_andT rfl rfl rfl | exact rv_andF rfl rfl rfl | exact rv_pickAnd rfl rfl rfl)) rfl ?_
      refine GL.val (rv_move rfl) rfl ?_
      first | refine GL.skipG rfl rfl ?_ | refine GL.skipU rfl rfl ?_ | refine GL.valT rfl (rv_field fo_25_2 rfl rfl) rfl ?_ | refine GL.valG rfl (fun hb => rv_field fo_25_2 (by first | exact evb rfl hb | rfl) (by first | exact evb rfl hb | rfl)) rfl ?_
      first | refine GL.skipG rfl rfl ?_ | refine GL.skipU rfl rfl ?_ | refine GL.valT rfl (rv_load ag_23 rfl (by first | exact Hd.cell (k := 2) rfl rfl | exact Hd.rowCell (k := 2) rfl (by assumption))) rfl ?_ | refine GL.valG rfl (fun hb => rv_load ag_23 (by first | exact evb rfl hb | rfl) (by first | exact Hd.cell (k := 2) (by first | exact evb rfl hb | rfl) (by first | exact evb rfl hb | rfl) | exact Hd.rowCell (k := 2) (by first | exact evb rfl hb | rfl) (by assumption))) rfl ?_
      first | refine GL.skipG rfl rfl ?_ | refine GL.skipU rfl rfl ?_ | refine GL.valT rfl (rv_to (v' := .bool true) (rv_eq64 (b := 2) rfl rfl) (by exact congrArg Value.bool (by decide))) rfl ?_ | refine GL.valG rfl (fun hb => rv_to (v' := .bool true) (rv_eq64 (b := 2) (by first | exact evb rfl hb | rfl) (by first | exact evb rfl hb | rfl)) (by exact congrArg Value.bool (by decide))) rfl ?_
      refine GL.val ((by first | exact rv_andT rfl rfl rfl | exact rv_andF rfl rfl rfl | exact rv_pickAnd rfl rfl rfl)) rfl ?_
      refine GL.val (rv_move rfl) rfl ?_
      first | refine GL.skipG rfl rfl ?_ | refine GL.skipU rfl rfl ?_ | refine GL.valT rfl (rv_field fo_25_1 rfl rfl) rfl ?_ | refine GL.valG rfl (fun hb => rv_field fo_25_1 (by first | exact evb rfl hb | rfl) (by first | exact evb rfl hb | rfl)) rfl ?_
      first | refine GL.skipG rfl rfl ?_ | refine GL.skipU rfl rfl ?_ | refine GL.valT rfl (rv_load ag_22 rfl (by first | exact Hd.cell (k := 2) rfl rfl | exact Hd.rowCell (k := 2) rfl (by assumption))) rfl ?_ | refine GL.valG rfl (fun hb => rv_load ag_22 (by first | exact evb rfl hb | rfl) (by first | exact Hd.cell (k := 2) (by first | exact evb rfl hb | rfl) (by first | exact evb rfl hb | rfl) | exact Hd.rowCell (k := 2) (by first | exact evb rfl hb | rfl) (by assumption))) rfl ?_
      first | refine GL.skipG rfl rfl ?_ | refine GL.skipU rfl rfl ?_ | refine GL.valT rfl (rv_convBS (b := [108]) Try.underlying22 Try.underlying5 Try.underlying9 rfl (fun w h => h.ro (k := 0) rfl) rfl) rfl ?_ | refine GL.valG rfl (fun hb => rv_convBS (b := [108]) Try.underlying22 Try.underlying5 Try.underlying9 (by first | exact evb rfl hb | rfl) (fun w h => h.ro (k := 0) (by first | exact evb rfl hb | rfl)) (by first | exact evb rfl hb | rfl)) rfl ?_
      first | refine GL.skipG rfl rfl ?_ | refine GL.skipU rfl rfl ?_ | refine GL.valT rfl (rv_to (v' := .bool true) (rv_eqS rfl rfl) (by exact congrArg Value.bool (decide_eq_true rfl))) rfl ?_ | refine GL.valG rfl (fun hb => rv_to (v' := .bool true) (rv_eqS (by first | exact evb rfl hb | rfl) (by first | exact evb rfl hb | rfl)) (by exact congrArg Value.bool (decide_eq_true (by first | exact evb rfl hb | rfl)))) rfl ?_
      refine GL.val ((by first | exact rv_andT rfl rfl rfl | exact rv_andF rfl rfl rfl | exact rv_pickAnd rfl rfl rfl)) rfl ?_
      refine GL.val (rv_assign rfl) rfl ?_
      refine GL.nil ?_
      refine GX.then ?_
      refine GC.ret ?_
      refine GX.ret1 rfl (RR.tmp rfl) ?_
      exact fun w9 h => ⟨(), rfl, by
          have h := h.sel [] rfl rfl
          exact h, trivial⟩
  · refine ot_alloc (zs := [.string ByteArray.empty, .slice none 0 0, .int .u64 0]) zb_25 rfl rfl fun b5 => ⟨.inr fun _ h => h.pk [1, 2, 3, 4, 5, 6], ?_⟩
    refine GD.step (i := 2) (by kernel_rfl) rfl (ot_buildSlice ei_22 rfl rfl rfl rfl rfl rfl fun b26 => ⟨.inr fun _ h => h.pk [2, 3, 4, 5, 6, 7], ?_⟩)
    refine GD.step (i := 3) (by kernel_rfl) rfl (ot_mark (k := 0) Try.underlying22 Try.underlying5 rfl rfl rfl ⟨.inr fun _ h => h.pk [2, 3, 4, 5, 6, 7], ?_⟩)
    refine GD.step (i := 4) (by kernel_rfl) rfl (ot_call hb_13 rfl (callOk fun w hh => ask_c (⟨#[97, 110, 110]⟩ : ByteArray) [107] g12.1 g12.2 1 [108] (some ⟨b26, 0, none⟩) 1 w (hh.ro (k := 6) rfl) h12 (by decide) (by decide) (hh.ro (k := 0) rfl) (Nat.le_refl 1) (by decide)) rfl fun g28 h28 => ⟨.inr fun _ h => h.pk [3, 4, 5, 6, 7, 8], ?_⟩)
    refine GD.step (i := 5) (by kernel_rfl) rfl (ot_call hb_10 rfl (callOk fun w hh => next_c true (⟨#[97, 110, 110]⟩ : ByteArray) [107] g12.1 g12.2 1 2 (⟨#[97, 110, 110]⟩ : ByteArray) [108] g28.1 g28.2 (auth [107] (⟨#[97, 110, 110]⟩ : ByteArray) (1 + 1) [108]) w (hh.ro (k := 7) rfl) h12 (by decide) (auth_len _ _ _ _) (by decide) (hh.ro (k := 0) rfl) h28 (by decide)) rfl fun g29 h29 => ⟨.inr fun _ h => h.pk [4, 5, 6, 7, 8, 9], ?_⟩)
    rw [wk3]
    simp only [rn_0, rk_0, rs_0]
    refine GD.pure (i := 6) rfl (fun _ _ => rv_move rfl) (by kernel_rfl) (by repeat (first | exact noPanicPut_body | exact noPanicPut_cut | exact noPanicPut_cutE | refine noPanicPut_then ?_ | refine noPanicPut_blk ?_)) ?_
    refine GD.pure (i := 7) rfl (fun _ _ => rv_extract rfl rfl) (by kernel_rfl) (by repeat (first | exact noPanicPut_body | exact noPanicPut_cut | exact noPanicPut_cutE | refine noPanicPut_then ?_ | refine noPanicPut_blk ?_)) ?_
    refine GD.pure (i := 8) rfl (fun _ _ => rv_extract rfl rfl) (by kernel_rfl) (by repeat (first | exact noPanicPut_body | exact noPanicPut_cut | exact noPanicPut_cutE | refine noPanicPut_then ?_ | refine noPanicPut_blk ?_)) ?_
    refine GD.step (i := 10) (by kernel_rfl) rfl (ot_store (k := 3) rfl rfl rfl rfl sz_25 rfl rfl (by first | ((simp only [repl, List.set_cons_zero, List.set_cons_succ]) <;> rfl) | rfl) ⟨.inl rfl, ?_⟩)
    refine GD.pure (i := 11) rfl (fun _ _ => rv_assign rfl) (by kernel_rfl) (by repeat (first | exact noPanicPut_body | exact noPanicPut_cut | exact noPanicPut_cutE | refine noPanicPut_then ?_ | refine noPanicPut_blk ?_)) ?_
    refine GD.done (by kernel_rfl) ?_
    refine GX.then ?_
    refine GC.seq ?_
    refine GC.reg ?_
    refine GL.val (rv_move rfl) rfl ?_
    refine GL.val (rv_to (v' := .bool true) (rv_eqI rfl rfl) (by simp)) rfl ?_
    refine GL.val (rv_move rfl) rfl ?_
    first | refine GL.skipG rfl rfl ?_ | refine GL.skipU rfl rfl ?_ | refine GL.valT rfl (rv_field fo_25_2 rfl rfl) rfl ?_ | refine GL.valG rfl (fun hb => rv_field fo_25_2 (by first | exact evb rfl hb | rfl) (by first | exact evb rfl hb | rfl)) rfl ?_
    first | refine GL.skipG rfl rfl ?_ | refine GL.skipU rfl rfl ?_ | refine GL.valT rfl (rv_load ag_23 rfl (by first | exact Hd.cell (k := 7) rfl rfl | exact Hd.rowCell (k := 7) rfl (by assumption))) rfl ?_ | refine GL.valG rfl (fun hb => rv_load ag_23 (by first | exact evb rfl hb | rfl) (by first | exact Hd.cell (k := 7) (by first | exact evb rfl hb | rfl) (by first | exact evb rfl hb | rfl) | exact Hd.rowCell (k := 7) (by first | exact evb rfl hb | rfl) (by assumption))) rfl ?_
    first | refine GL.skipG rfl rfl ?_ | refine GL.skipU rfl rfl ?_ | refine GL.valT rfl (rv_to (v' := .bool true) (rv_eq64 (b := 1) rfl rfl) (by exact congrArg Value.bool (by decide))) rfl ?_ | refine GL.valG rfl (fun hb => rv_to (v' := .bool true) (rv_eq64 (b := 1) (by first | exact evb rfl hb | rfl) (by first | exact evb rfl hb | rfl)) (by exact congrArg Value.bool (by decide))) rfl ?_
    refine GL.val ((by first | exact rv_andT rfl rfl rfl | exact rv_andF rfl rfl rfl | exact rv_pickAnd rfl rfl rfl)) rfl ?_
    refine GL.val (rv_move rfl) rfl ?_
    first | refine GL.skipG rfl rfl ?_ | refine GL.skipU rfl rfl ?_ | refine GL.valT rfl (rv_move rfl) rfl ?_ | refine GL.valG rfl (fun hb => rv_move (by first | exact evb rfl hb | rfl)) rfl ?_
    first | refine GL.skipG rfl rfl ?_ | refine GL.skipU rfl rfl ?_ | refine GL.valT rfl (rv_to (v' := .bool true) (rv_eqI rfl rfl) (by simp)) rfl ?_ | refine GL.valG rfl (fun hb => rv_to (v' := .bool true) (rv_eqI (by first | exact evb rfl hb | rfl) (by first | exact evb rfl hb | rfl)) (by simp)) rfl ?_
    refine GL.val ((by first | exact rv_andT rfl rfl rfl | exact rv_andF rfl rfl rfl | exact rv_pickAnd rfl rfl rfl)) rfl ?_
    refine GL.val (rv_move rfl) rfl ?_
    first | refine GL.skipG rfl rfl ?_ | refine GL.skipU rfl rfl ?_ | refine GL.valT rfl (rv_move rfl) rfl ?_ | refine GL.valG rfl (fun hb => rv_move (by first | exact evb rfl hb | rfl)) rfl ?_
    first | refine GL.skipG rfl rfl ?_ | refine GL.skipU rfl rfl ?_ | refine GL.valT rfl (rv_to (v' := .bool true) (rv_eqI rfl rfl) (by simp)) rfl ?_ | refine GL.valG rfl (fun hb => rv_to (v' := .bool true) (rv_eqI (by first | exact evb rfl hb | rfl) (by first | exact evb rfl hb | rfl)) (by simp)) rfl ?_
    refine GL.val ((by first | exact rv_andT rfl rfl rfl | exact rv_andF rfl rfl rfl | exact rv_pickAnd rfl rfl rfl)) rfl ?_
    refine GL.val (rv_move rfl) rfl ?_
    first | refine GL.skipG rfl rfl ?_ | refine GL.skipU rfl rfl ?_ | refine GL.valT rfl (rv_field fo_25_2 rfl rfl) rfl ?_ | refine GL.valG rfl (fun hb => rv_field fo_25_2 (by first | exact evb rfl hb | rfl) (by first | exact evb rfl hb | rfl)) rfl ?_
    first | refine GL.skipG rfl rfl ?_ | refine GL.skipU rfl rfl ?_ | refine GL.valT rfl (rv_load ag_23 rfl (by first | exact Hd.cell (k := 3) rfl rfl | exact Hd.rowCell (k := 3) rfl (by assumption))) rfl ?_ | refine GL.valG rfl (fun hb => rv_load ag_23 (by first | exact evb rfl hb | rfl) (by first | exact Hd.cell (k := 3) (by first | exact evb rfl hb | rfl) (by first | exact evb rfl hb | rfl) | exact Hd.rowCell (k := 3) (by first | exact evb rfl hb | rfl) (by assumption))) rfl ?_
    first | refine GL.skipG rfl rfl ?_ | refine GL.skipU rfl rfl ?_ | refine GL.valT rfl (rv_to (v' := .bool true) (rv_eq64 (b := 2) rfl rfl) (by exact congrArg Value.bool (by decide))) rfl ?_ | refine GL.valG rfl (fun hb => rv_to (v' := .bool true) (rv_eq64 (b := 2) (by first | exact evb rfl hb | rfl) (by first | exact evb rfl hb | rfl)) (by exact congrArg Value.bool (by decide))) rfl ?_
    refine GL.val ((by first | exact rv_andT rfl rfl rfl | exact rv_andF rfl rfl rfl | exact rv_pickAnd rfl rfl rfl)) rfl ?_
    refine GL.val (rv_move rfl) rfl ?_
    first | refine GL.skipG rfl rfl ?_ | refine GL.skipU rfl rfl ?_ | refine GL.valT rfl (rv_field fo_25_1 rfl rfl) rfl ?_ | refine GL.valG rfl (fun hb => rv_field fo_25_1 (by first | exact evb rfl hb | rfl) (by first | exact evb rfl hb | rfl)) rfl ?_
    first | refine GL.skipG rfl rfl ?_ | refine GL.skipU rfl rfl ?_ | refine GL.valT rfl (rv_load ag_22 rfl (by first | exact Hd.cell (k := 3) rfl rfl | exact Hd.rowCell (k := 3) rfl (by assumption))) rfl ?_ | refine GL.valG rfl (fun hb => rv_load ag_22 (by first | exact evb rfl hb | rfl) (by first | exact Hd.cell (k := 3) (by first | exact evb rfl hb | rfl) (by first | exact evb rfl hb | rfl) | exact Hd.rowCell (k := 3) (by first | exact evb rfl hb | rfl) (by assumption))) rfl ?_
    first | refine GL.skipG rfl rfl ?_ | refine GL.skipU rfl rfl ?_ | refine GL.valT rfl (rv_convBS (b := [108]) Try.underlying22 Try.underlying5 Try.underlying9 rfl (fun w h => h.ro (k := 0) rfl) rfl) rfl ?_ | refine GL.valG rfl (fun hb => rv_convBS (b := [108]) Try.underlying22 Try.underlying5 Try.underlying9 (by first | exact evb rfl hb | rfl) (fun w h => h.ro (k := 0) (by first | exact evb rfl hb | rfl)) (by first | exact evb rfl hb | rfl)) rfl ?_
    first | refine GL.skipG rfl rfl ?_ | refine GL.skipU rfl rfl ?_ | refine GL.valT rfl (rv_to (v' := .bool true) (rv_eqS rfl rfl) (by exact congrArg Value.bool (decide_eq_true rfl))) rfl ?_ | refine GL.valG rfl (fun hb => rv_to (v' := .bool true) (rv_eqS (by first | exact evb rfl hb | rfl) (by first | exact evb rfl hb | rfl)) (by exact congrArg Value.bool (decide_eq_true (by first | exact evb rfl hb | rfl)))) rfl ?_
    refine GL.val ((by first | exact rv_andT rfl rfl rfl | exact rv_andF rfl rfl rfl | exact rv_pickAnd rfl rfl rfl)) rfl ?_
    refine GL.val (rv_assign rfl) rfl ?_
    refine GL.nil ?_
    refine GX.then ?_
    refine GC.ret ?_
    refine GX.ret1 rfl (RR.tmp rfl) ?_
    exact fun w9 h => ⟨(), rfl, by
        have h := h.sel [] rfl rfl
        exact h, trivial⟩
end Go.Proofs.Ytiiofagddljgdaa
