import Derived.Test.YtjbnblkefhpibaaK
set_option linter.unusedVariables false
set_option linter.unusedSimpArgs false
namespace Go.Proofs.Ytjbnblkefhpibaa
open Go Go.RowKit Go.Bz

theorem few_b (A : Option Addr) (n c : Nat) (w : World) (b : Bool) (h : decide (n ≤ 200) = b) : Calls Try.prog 9 [.slice A n c].toArray w fun e w' => ∃ _g : Unit, e = .returned (.bool b) ∧ St noB w w' [] ∧ True := h ▸ few_c A n c w

set_option maxRecDepth 100000 in
set_option maxHeartbeats 1000000 in
theorem smaller_law (most more : Int) (A : Option Addr) (n c : Nat) (ol : List Bc.Op) (w : World) (hm0 : 0 ≤ more) (hm1 : more ≤ 255) (hR : SlR w A (opc ol)) (hl : ol.length = n) :
    Calls Try.prog 6 [.int .i64 most, .int .u8 more, .slice A n c].toArray w fun e w' => ∃ _g : Unit, e = .returned (.bool true) ∧ St noB w w' [] ∧ True := by
  refine GC.calls Try.func6 rfl rfl (St.begin _) ?_
  have HA := roHead hR
  subst hl
  refine GC.seq ?_
  refine GC.reg ?_
  refine GL.val (rv_assign rfl) rfl ?_
  refine GL.nil ?_
  refine GX.then ?_
  refine GC.seq ?_
  refine GC.seq ?_
  refine GC.cutr ([(0, .int .i64 most), (1, .int .u8 more), (2, .slice A ol.length c), (26, .bool (!decide (0 ≤ most ∧ most ≤ 500 ∧ ol.length ≤ 200)))]) ([]) ?_ ?_
  · rcases (by omega : most < 0 ∨ (0 ≤ most ∧ 500 < most) ∨ (0 ≤ most ∧ most ≤ 500 ∧ ¬ ol.length ≤ 200) ∨ (0 ≤ most ∧ most ≤ 500 ∧ ol.length ≤ 200)) with h | h | h | h
    · have e : (!decide (0 ≤ most ∧ most ≤ 500 ∧ ol.length ≤ 200)) = true := by rw [decide_eq_false (by omega)]; rfl
      rw [e]
      have hb : decide (ol.length ≤ 200) = decide (ol.length ≤ 200) := rfl
      refine GC.reg ?_
      refine GL.val (rv_move rfl) rfl ?_
      refine GL.val ((by first | exact rv_to (v' := .bool true) (rv_lss rfl rfl) (by simp only [Value.bool.injEq, decide_eq_true_eq, decide_eq_false_iff_not]; omega) | exact rv_to (v' := .bool false) (rv_lss rfl rfl) (by simp only [Value.bool.injEq, decide_eq_true_eq, decide_eq_false_iff_not]; omega))) rfl ?_
      refine GL.val (rv_move rfl) rfl ?_
      first | refine GL.skipG rfl rfl ?_ | refine GL.skipU rfl rfl ?_ | refine GL.valT rfl (rv_move rfl) rfl ?_ | refine GL.valG rfl (fun hb => rv_move (by first | exact evb rfl hb | rfl)) rfl ?_
      first | refine GL.skipG rfl rfl ?_ | refine GL.skipU rfl rfl ?_ | refine GL.valT rfl ((by first | exact rv_to (v' := .bool true) (rv_gtr rfl rfl) (by simp only [Value.bool.injEq, decide_eq_true_eq, decide_eq_false_iff_not]; omega) | exact rv_to (v' := .bool false) (rv_gtr rfl rfl) (by simp only [Value.bool.injEq, decide_eq_true_eq, decide_eq_false_iff_not]; omega))) rfl ?_ | refine GL.valG rfl (fun hb => (by first | exact rv_to (v' := .bool true) (rv_gtr (by first | exact evb rfl hb | rfl) (by first | exact evb rfl hb | rfl)) (by simp only [Value.bool.injEq, decide_eq_true_eq, decide_eq_false_iff_not]; omega) | exact rv_to (v' := .bool false) (rv_gtr (by first | exact evb rfl hb | rfl) (by first | exact evb rfl hb | rfl)) (by simp only [Value.bool.injEq, decide_eq_true_eq, decide_eq_false_iff_not]; omega))) rfl ?_
      refine GL.val ((by first | exact rv_orF rfl rfl rfl | exact rv_orT rfl rfl rfl | exact rv_pickOr rfl rfl rfl)) rfl ?_
      refine GL.val (rv_move rfl) rfl ?_
      first | refine GL.skipG rfl rfl ?_ | refine GL.skipU rfl rfl ?_ | refine GL.valT rfl (rv_move rfl) rfl ?_ | refine GL.valG rfl (fun hb => rv_move (by first | exact evb rfl hb | rfl)) rfl ?_
      first | refine GL.skipG rfl rfl ?_ | refine GL.skipU rfl rfl ?_ | refine GL.stepG rfl (ot_call hb_9 rfl (callOk fun w hh => few_b A _ c w _ hb) rfl fun _ _ => ?_)
      first | refine GL.skipG rfl rfl ?_ | refine GL.skipU rfl rfl ?_ | refine GL.valT rfl (rv_not rfl) rfl ?_ | refine GL.valG rfl (fun hb => rv_not (by first | exact evb rfl hb | rfl)) rfl ?_
      refine GL.val ((by first | exact rv_orF rfl rfl rfl | exact rv_orT rfl rfl rfl | exact rv_pickOr rfl rfl rfl)) rfl ?_
      refine GL.nil ?_
      exact GX.cut (by repeat (first | exact Sub.nil | refine Sub.cons rfl ?_)) (fun w h => h)
    · have e : (!decide (0 ≤ most ∧ most ≤ 500 ∧ ol.length ≤ 200)) = true := by rw [decide_eq_false (by omega)]; rfl
      rw [e]
      have hb : decide (ol.length ≤ 200) = decide (ol.length ≤ 200) := rfl
      refine GC.reg ?_
      refine GL.val (rv_move rfl) rfl ?_
      refine GL.val ((by first | exact rv_to (v' := .bool true) (rv_lss rfl rfl) (by simp only [Value.bool.injEq, decide_eq_true_eq, decide_eq_false_iff_not]; omega) | exact rv_to (v' := .bool false) (rv_lss rfl rfl) (by simp only [Value.bool.injEq, decide_eq_true_eq, decide_eq_false_iff_not]; omega))) rfl ?_
      refine GL.val (rv_move rfl) rfl ?_
      first | refine GL.skipG rfl rfl ?_ | refine GL.skipU rfl rfl ?_ | refine GL.valT rfl (rv_move rfl) rfl ?_ | refine GL.valG rfl (fun hb => rv_move (by first | exact evb rfl hb | rfl)) rfl ?_
      first | refine GL.skipG rfl rfl ?_ | refine GL.skipU rfl rfl ?_ | refine GL.valT rfl ((by first | exact rv_to (v' := .bool true) (rv_gtr rfl rfl) (by simp only [Value.bool.injEq, decide_eq_true_eq, decide_eq_false_iff_not]; omega) | exact rv_to (v' := .bool false) (rv_gtr rfl rfl) (by simp only [Value.bool.injEq, decide_eq_true_eq, decide_eq_false_iff_not]; omega))) rfl ?_ | refine GL.valG rfl (fun hb => (by first | exact rv_to (v' := .bool true) (rv_gtr (by first | exact evb rfl hb | rfl) (by first | exact evb rfl hb | rfl)) (by simp only [Value.bool.injEq, decide_eq_true_eq, decide_eq_false_iff_not]; omega) | exact rv_to (v' := .bool false) (rv_gtr (by first | exact evb rfl hb | rfl) (by first | exact evb rfl hb | rfl)) (by simp only [Value.bool.injEq, decide_eq_true_eq, decide_eq_false_iff_not]; omega))) rfl ?_
      refine GL.val ((by first | exact rv_orF rfl rfl rfl | exact rv_orT rfl rfl rfl | exact rv_pickOr rfl rfl rfl)) rfl ?_
      refine GL.val (rv_move rfl) rfl ?_
      first | refine GL.skipG rfl rfl ?_ | refine GL.skipU rfl rfl ?_ | refine GL.valT rfl (rv_move rfl) rfl ?_ | refine GL.valG rfl (fun hb => rv_move (by first | exact evb rfl hb | rfl)) rfl ?_
      first | refine GL.skipG rfl rfl ?_ | refine GL.skipU rfl rfl ?_ | refine GL.stepG rfl (ot_call hb_9 rfl (callOk fun w hh => few_b A _ c w _ hb) rfl fun _ _ => ?_)
      first | refine GL.skipG rfl rfl ?_ | refine GL.skipU rfl rfl ?_ | refine GL.valT rfl (rv_not rfl) rfl ?_ | refine GL.valG rfl (fun hb => rv_not (by first | exact evb rfl hb | rfl)) rfl ?_
      refine GL.val ((by first | exact rv_orF rfl rfl rfl | exact rv_orT rfl rfl rfl | exact rv_pickOr rfl rfl rfl)) rfl ?_
      refine GL.nil ?_
      exact GX.cut (by repeat (first | exact Sub.nil | refine Sub.cons rfl ?_)) (fun w h => h)
    · have e : (!decide (0 ≤ most ∧ most ≤ 500 ∧ ol.length ≤ 200)) = true := by rw [decide_eq_false (by omega)]; rfl
      rw [e]
      have hb : decide (ol.length ≤ 200) = false := decide_eq_false h.2.2
      refine GC.reg ?_
      refine GL.val (rv_move rfl) rfl ?_
      refine GL.val ((by first | exact rv_to (v' := .bool true) (rv_lss rfl rfl) (by simp only [Value.bool.injEq, decide_eq_true_eq, decide_eq_false_iff_not]; omega) | exact rv_to (v' := .bool false) (rv_lss rfl rfl) (by simp only [Value.bool.injEq, decide_eq_true_eq, decide_eq_false_iff_not]; omega))) rfl ?_
      refine GL.val (rv_move rfl) rfl ?_
      first | refine GL.skipG rfl rfl ?_ | refine GL.skipU rfl rfl ?_ | refine GL.valT rfl (rv_move rfl) rfl ?_ | refine GL.valG rfl (fun hb => rv_move (by first | exact evb rfl hb | rfl)) rfl ?_
      first | refine GL.skipG rfl rfl ?_ | refine GL.skipU rfl rfl ?_ | refine GL.valT rfl ((by first | exact rv_to (v' := .bool true) (rv_gtr rfl rfl) (by simp only [Value.bool.injEq, decide_eq_true_eq, decide_eq_false_iff_not]; omega) | exact rv_to (v' := .bool false) (rv_gtr rfl rfl) (by simp only [Value.bool.injEq, decide_eq_true_eq, decide_eq_false_iff_not]; omega))) rfl ?_ | refine GL.valG rfl (fun hb => (by first | exact rv_to (v' := .bool true) (rv_gtr (by first | exact evb rfl hb | rfl) (by first | exact evb rfl hb | rfl)) (by simp only [Value.bool.injEq, decide_eq_true_eq, decide_eq_false_iff_not]; omega) | exact rv_to (v' := .bool false) (rv_gtr (by first | exact evb rfl hb | rfl) (by first | exact evb rfl hb | rfl)) (by simp only [Value.bool.injEq, decide_eq_true_eq, decide_eq_false_iff_not]; omega))) rfl ?_
      refine GL.val ((by first | exact rv_orF rfl rfl rfl | exact rv_orT rfl rfl rfl | exact rv_pickOr rfl rfl rfl)) rfl ?_
      refine GL.val (rv_move rfl) rfl ?_
      first | refine GL.skipG rfl rfl ?_ | refine GL.skipU rfl rfl ?_ | refine GL.valT rfl (rv_move rfl) rfl ?_ | refine GL.valG rfl (fun hb => rv_move (by first | exact evb rfl hb | rfl)) rfl ?_
      first | refine GL.skipG rfl rfl ?_ | refine GL.skipU rfl rfl ?_ | refine GL.stepG rfl (ot_call hb_9 rfl (callOk fun w hh => few_b A _ c w _ hb) rfl fun _ _ => ?_)
      first | refine GL.skipG rfl rfl ?_ | refine GL.skipU rfl rfl ?_ | refine GL.valT rfl (rv_not rfl) rfl ?_ | refine GL.valG rfl (fun hb => rv_not (by first | exact evb rfl hb | rfl)) rfl ?_
      refine GL.val ((by first | exact rv_orF rfl rfl rfl | exact rv_orT rfl rfl rfl | exact rv_pickOr rfl rfl rfl)) rfl ?_
      refine GL.nil ?_
      exact GX.cut (by repeat (first | exact Sub.nil | refine Sub.cons rfl ?_)) (fun w h => h)
    · have e : (!decide (0 ≤ most ∧ most ≤ 500 ∧ ol.length ≤ 200)) = false := by rw [decide_eq_true (by omega)]; rfl
      rw [e]
      have hb : decide (ol.length ≤ 200) = true := decide_eq_true h.2.2
      refine GC.reg ?_
      refine GL.val (rv_move rfl) rfl ?_
      refine GL.val ((by first | exact rv_to (v' := .bool true) (rv_lss rfl rfl) (by simp only [Value.bool.injEq, decide_eq_true_eq, decide_eq_false_iff_not]; omega) | exact rv_to (v' := .bool false) (rv_lss rfl rfl) (by simp only [Value.bool.injEq, decide_eq_true_eq, decide_eq_false_iff_not]; omega))) rfl ?_
      refine GL.val (rv_move rfl) rfl ?_
      first | refine GL.skipG rfl rfl ?_ | refine GL.skipU rfl rfl ?_ | refine GL.valT rfl (rv_move rfl) rfl ?_ | refine GL.valG rfl (fun hb => rv_move (by first | exact evb rfl hb | rfl)) rfl ?_
      first | refine GL.skipG rfl rfl ?_ | refine GL.skipU rfl rfl ?_ | refine GL.valT rfl ((by first | exact rv_to (v' := .bool true) (rv_gtr rfl rfl) (by simp only [Value.bool.injEq, decide_eq_true_eq, decide_eq_false_iff_not]; omega) | exact rv_to (v' := .bool false) (rv_gtr rfl rfl) (by simp only [Value.bool.injEq, decide_eq_true_eq, decide_eq_false_iff_not]; omega))) rfl ?_ | refine GL.valG rfl (fun hb => (by first | exact rv_to (v' := .bool true) (rv_gtr (by first | exact evb rfl hb | rfl) (by first | exact evb rfl hb | rfl)) (by simp only [Value.bool.injEq, decide_eq_true_eq, decide_eq_false_iff_not]; omega) | exact rv_to (v' := .bool false) (rv_gtr (by first | exact evb rfl hb | rfl) (by first | exact evb rfl hb | rfl)) (by simp only [Value.bool.injEq, decide_eq_true_eq, decide_eq_false_iff_not]; omega))) rfl ?_
      refine GL.val ((by first | exact rv_orF rfl rfl rfl | exact rv_orT rfl rfl rfl | exact rv_pickOr rfl rfl rfl)) rfl ?_
      refine GL.val (rv_move rfl) rfl ?_
      first | refine GL.skipG rfl rfl ?_ | refine GL.skipU rfl rfl ?_ | refine GL.valT rfl (rv_move rfl) rfl ?_ | refine GL.valG rfl (fun hb => rv_move (by first | exact evb rfl hb | rfl)) rfl ?_
      first | refine GL.skipG rfl rfl ?_ | refine GL.skipU rfl rfl ?_ | refine GL.stepG rfl (ot_call hb_9 rfl (callOk fun w hh => few_b A _ c w _ hb) rfl fun _ _ => ?_)
      first | refine GL.skipG rfl rfl ?_ | refine GL.skipU rfl rfl ?_ | refine GL.valT rfl (rv_not rfl) rfl ?_ | refine GL.valG rfl (fun hb => rv_not (by first | exact evb rfl hb | rfl)) rfl ?_
      refine GL.val ((by first | exact rv_orF rfl rfl rfl | exact rv_orT rfl rfl rfl | exact rv_pickOr rfl rfl rfl)) rfl ?_
      refine GL.nil ?_
      exact GX.cut (by repeat (first | exact Sub.nil | refine Sub.cons rfl ?_)) (fun w h => h)
  refine GX.then ?_
  first | refine GC.condP rfl (fun c1 => ?_) (fun c1 => ?_) | refine GC.cond rfl (fun c1 => ?_) (fun c1 => ?_)
  · refine GC.seq ?_
    refine GC.reg ?_
    refine GL.step (ot_call hb_10 rfl (callOk fun w hh => works_c w) rfl fun _ _ => ?_)
    refine GL.val (rv_assign rfl) rfl ?_
    refine GL.nil ?_
    refine GX.then ?_
    refine GC.ret ?_
    refine GX.then_ret ?_
    refine GX.ret1 rfl (RR.tmp rfl) ?_
    exact fun w1 h1 => ⟨(), rfl, h1.take 0, trivial⟩
  · have c1 : 0 ≤ most ∧ most ≤ 500 ∧ ol.length ≤ 200 := by simpa using c1
    refine GC.skip ?_
    refine GX.then ?_
    refine GC.seq ?_
    refine GC.reg ?_
    refine GL.val (rv_move rfl) rfl ?_
    refine GL.step (ot_call hb_16 rfl (callOk fun w hh => new_c most w) rfl fun p _ => ?_)
    refine GL.val (rv_move rfl) rfl ?_
    refine GL.val (rv_move rfl) rfl ?_
    refine GL.val (rv_to (v' := .int .i64 more) (rv_convI Try.underlying5 Try.underlying3 rfl) (by rw [i64_small (by omega) (by omega)])) rfl ?_
    refine GL.val (rv_add rfl rfl (by omega) (by omega)) rfl ?_
    refine GL.step (ot_call hb_16 rfl (callOk fun w hh => new_c (most + more) w) rfl fun q _ => ?_)
    refine GL.val (rv_assign rfl) rfl ?_
    refine GL.val (rv_assign rfl) rfl ?_
    refine GL.nil ?_
    refine GX.then ?_
    refine GC.seq ?_
    refine GC.seq ?_
    refine GC.reg ?_
    refine GL.val (rv_move rfl) rfl ?_
    refine GL.val (rv_ptrNil rfl rfl Try.underlying23) rfl ?_
    refine GL.val (rv_move rfl) rfl ?_
    first | refine GL.skipG rfl rfl ?_ | refine GL.skipU rfl rfl ?_ | refine GL.valT rfl (rv_move rfl) rfl ?_ | refine GL.valG rfl (fun hb => rv_move (by first | exact evb rfl hb | rfl)) rfl ?_
    first | refine GL.skipG rfl rfl ?_ | refine GL.skipU rfl rfl ?_ | refine GL.valT rfl (rv_ptrNil rfl rfl Try.underlying23) rfl ?_ | refine GL.valG rfl (fun hb => rv_ptrNil (by first | exact evb rfl hb | rfl) (by first | exact evb rfl hb | rfl) Try.underlying23) rfl ?_
    refine GL.val ((by first | exact rv_orF rfl rfl rfl | exact rv_orT rfl rfl rfl | exact rv_pickOr rfl rfl rfl)) rfl ?_
    refine GL.nil ?_
    refine GX.then ?_
    first | refine GC.condP rfl (fun c2 => ?_) (fun c2 => ?_) | refine GC.cond rfl (fun c2 => ?_) (fun c2 => ?_)
    · exact absurd c2 (by simp)
    · refine GC.skip ?_
      refine GX.then ?_
      refine GC.seq ?_
      refine GC.seq ?_
      refine GC.reg ?_
      refine GL.val (rv_assign rfl) rfl ?_
      refine GL.nil ?_
      refine GX.then ?_
      refine GC.block ?_
      refine GC.loop (γ := Nat) (fun j => [(2, .slice A ol.length c), (7, .pointer (some ⟨p, 0, none⟩)), (8, .pointer (some ⟨q, 0, none⟩)), (9, .int .i64 (j : Int))]) (fun j => [CcP q (max (most + more) 0) (Bc.run (max (most + more) 0) (ol.take j)).1 (Bc.run (max (most + more) 0) (ol.take j)).2.1 (Bc.run (max (most + more) 0) (ol.take j)).2.2, CcP p (max most 0) (Bc.run (max most 0) (ol.take j)).1 (Bc.run (max most 0) (ol.take j)).2.1 (Bc.run (max most 0) (ol.take j)).2.2]) (fun j => j ≤ ol.length) (fun j => ol.length - j) (0) (Nat.zero_le _) (by repeat (first | exact Sub.nil | refine Sub.cons rfl ?_)) (fun w h => h) (fun j hj => ?_)
      refine GC.seq ?_
      refine GC.seq ?_
      refine GC.reg ?_
      refine GL.val (rv_move rfl) rfl ?_
      refine GL.val (rv_move rfl) rfl ?_
      refine GL.val (rv_lenSl Try.underlying22 rfl) rfl ?_
      refine GL.val (rv_lss rfl rfl) rfl ?_
      refine GL.nil ?_
      refine GX.then ?_
      first | refine GC.condP rfl (fun c3 => ?_) (fun c3 => ?_) | refine GC.cond rfl (fun c3 => ?_) (fun c3 => ?_)
      · have hlt : j < ol.length := by omega
        obtain ⟨b, o, rfl, hC⟩ := HA.resolve_left (by omega)
        have hIa := Bc.Inv.run (m := (max most 0)) (by omega) ol j (by omega)
        have hIb := Bc.Inv.run (m := (max (most + more) 0)) (by omega) ol j (by omega)
        refine GC.skip ?_
        refine GX.then ?_
        refine GC.seq ?_
        refine GC.block ?_
        refine GC.seq ?_
        refine GC.reg ?_
        refine GL.val (rv_move rfl) rfl ?_
        refine GL.val (rv_move rfl) rfl ?_
        refine GL.val (rv_elem es_22 rfl rfl (by omega) (by omega)) rfl ?_
        refine GL.val (rv_field fo_35_0 rfl rfl) rfl ?_
        refine GL.val (rv_load ag_3 rfl (Hd.cell0 (op0 hC hlt) (fun h => h))) rfl ?_
        refine GL.nil ?_
        refine GX.then ?_
        refine GC.block ?_
        refine GC.seq ?_
        refine GC.reg ?_
        refine GL.val (rv_eqI rfl rfl) rfl ?_
        refine GL.val (rv_assign rfl) rfl ?_
        refine GL.nil ?_
        refine GX.then ?_
        first | refine GC.condP rfl (fun c4 => ?_) (fun c4 => ?_) | refine GC.cond rfl (fun c4 => ?_) (fun c4 => ?_)
        · refine GC.seq ?_
          refine GC.reg ?_
          refine GL.val (rv_move rfl) rfl ?_
          refine GL.val (rv_move rfl) rfl ?_
          refine GL.val (rv_move rfl) rfl ?_
          refine GL.val (rv_elem es_22 rfl rfl (by omega) (by omega)) rfl ?_
          refine GL.val (rv_field fo_35_1 rfl rfl) rfl ?_
          refine GL.val (rv_load ag_9 rfl (Hd.cell0 (op1 hC hlt) (fun h => h))) rfl ?_
          refine GL.step (ot_call hb_12 rfl (callOkM (k := 1) rfl fun w S _ hA hb => get_u p (max most 0) (Bc.run (max most 0) (ol.take j)).2.1 (Bc.run (max most 0) (ol.take j)).2.2 ol[j].2.1 (Bc.run (max most 0) (ol.take j)).1 w S hA hb (by have := hIa.len; omega) hIa.h0 (by have := hIa.h1; omega) hIa.s0 (by have := hIa.s1; omega) hIa.nd) rfl fun _ _ => ?_)
          refine GL.nil ?_
          refine GX.then ?_
          refine GC.reg ?_
          refine GL.val (rv_move rfl) rfl ?_
          refine GL.val (rv_move rfl) rfl ?_
          refine GL.val (rv_move rfl) rfl ?_
          refine GL.val (rv_elem es_22 rfl rfl (by omega) (by omega)) rfl ?_
          refine GL.val (rv_field fo_35_1 rfl rfl) rfl ?_
          refine GL.val (rv_load ag_9 rfl (Hd.cell0 (op1 hC hlt) (fun h => h))) rfl ?_
          refine GL.step (ot_call hb_12 rfl (callOkM (k := 1) rfl fun w S _ hA hb => get_u q (max (most + more) 0) (Bc.run (max (most + more) 0) (ol.take j)).2.1 (Bc.run (max (most + more) 0) (ol.take j)).2.2 ol[j].2.1 (Bc.run (max (most + more) 0) (ol.take j)).1 w S hA hb (by have := hIb.len; omega) hIb.h0 (by have := hIb.h1; omega) hIb.s0 (by have := hIb.s1; omega) hIb.nd) rfl fun _ _ => ?_)
          refine GL.nil ?_
          refine GX.blk ?_
          refine GX.blk ?_
          refine GX.then ?_
          refine GC.reg ?_
          refine GL.val (rv_move rfl) rfl ?_
          refine GL.val (rv_add rfl rfl (by omega) (by omega)) rfl ?_
          refine GL.val (rv_assign rfl) rfl ?_
          refine GL.nil ?_
          have e : ∀ m z, Bc.act m z ol[j] = (Bc.ge z.1 ol[j].2.1, if Bc.hs z.1 ol[j].2.1 = true then z.2.1 + 1 else z.2.1, if Bc.hs z.1 ol[j].2.1 = true then z.2.2 else z.2.2 + 1) := fun m z => by simp [Bc.act, c4]
          exact GX.round (j + 1) (by omega) (by omega) (by repeat (first | exact Sub.nil | refine Sub.cons rfl ?_)) (fun w h => by dsimp only; rw [Bc.run_take (max most 0) ol j hlt, Bc.run_take (max (most + more) 0) ol j hlt, e, e]; exact h)
        · refine GC.seq ?_
          refine GC.reg ?_
          refine GL.val (rv_eqI rfl rfl) rfl ?_
          refine GL.val (rv_assign rfl) rfl ?_
          refine GL.nil ?_
          refine GX.then ?_
          first | refine GC.condP rfl (fun c5 => ?_) (fun c5 => ?_) | refine GC.cond rfl (fun c5 => ?_) (fun c5 => ?_)
          · refine GC.seq ?_
            refine GC.draw 12 [] mo_ ?_
            refine GD.pure (i := 0) rfl (fun _ _ => rv_move rfl) (by kernel_rfl) (by repeat (first | exact noPanicPut_body | exact noPanicPut_cut | exact noPanicPut_cutE | refine noPanicPut_then ?_ | refine noPanicPut_blk ?_)) ?_
            refine GD.pure (i := 1) rfl (fun _ _ => rv_move rfl) (by kernel_rfl) (by repeat (first | exact noPanicPut_body | exact noPanicPut_cut | exact noPanicPut_cutE | refine noPanicPut_then ?_ | refine noPanicPut_blk ?_)) ?_
            refine GD.pure (i := 2) rfl (fun _ _ => rv_move rfl) (by kernel_rfl) (by repeat (first | exact noPanicPut_body | exact noPanicPut_cut | exact noPanicPut_cutE | refine noPanicPut_then ?_ | refine noPanicPut_blk ?_)) ?_
            refine GD.pure (i := 3) rfl (fun _ _ => rv_elem es_22 rfl rfl (by omega) (by omega)) (by kernel_rfl) (by repeat (first | exact noPanicPut_body | exact noPanicPut_cut | exact noPanicPut_cutE | refine noPanicPut_then ?_ | refine noPanicPut_blk ?_)) ?_
            refine GD.pure (i := 4) rfl (fun _ _ => rv_field fo_35_1 rfl rfl) (by kernel_rfl) (by repeat (first | exact noPanicPut_body | exact noPanicPut_cut | exact noPanicPut_cutE | refine noPanicPut_then ?_ | refine noPanicPut_blk ?_)) ?_
            refine GD.pure (i := 6) rfl (fun _ _ => rv_move rfl) (by kernel_rfl) (by repeat (first | exact noPanicPut_body | exact noPanicPut_cut | exact noPanicPut_cutE | refine noPanicPut_then ?_ | refine noPanicPut_blk ?_)) ?_
            refine GD.pure (i := 7) rfl (fun _ _ => rv_move rfl) (by kernel_rfl) (by repeat (first | exact noPanicPut_body | exact noPanicPut_cut | exact noPanicPut_cutE | refine noPanicPut_then ?_ | refine noPanicPut_blk ?_)) ?_
            refine GD.pure (i := 8) rfl (fun _ _ => rv_elem es_22 rfl rfl (by omega) (by omega)) (by kernel_rfl) (by repeat (first | exact noPanicPut_body | exact noPanicPut_cut | exact noPanicPut_cutE | refine noPanicPut_then ?_ | refine noPanicPut_blk ?_)) ?_
            refine GD.pure (i := 9) rfl (fun _ _ => rv_field fo_35_2 rfl rfl) (by kernel_rfl) (by repeat (first | exact noPanicPut_body | exact noPanicPut_cut | exact noPanicPut_cutE | refine noPanicPut_then ?_ | refine noPanicPut_blk ?_)) ?_
            refine GD.read (i := 5) rfl (rv_load ag_9 rfl (Hd.cell0 (op1 hC hlt) (fun h => h))) (by kernel_rfl) (by repeat (first | exact noPanicPut_body | exact noPanicPut_cut | exact noPanicPut_cutE | refine noPanicPut_then ?_ | refine noPanicPut_blk ?_)) ?_
            refine GD.read (i := 10) rfl (rv_load ag_3 rfl (Hd.cell0 (op2 hC hlt) (fun h => h))) (by kernel_rfl) (by repeat (first | exact noPanicPut_body | exact noPanicPut_cut | exact noPanicPut_cutE | refine noPanicPut_then ?_ | refine noPanicPut_blk ?_)) ?_
            refine GD.step (i := 11) (by kernel_rfl) rfl (ot_call hb_17 rfl (callOkM (k := 1) rfl fun w S _ hA hb => put_u p (max most 0) (Bc.run (max most 0) (ol.take j)).2.1 (Bc.run (max most 0) (ol.take j)).2.2 ol[j].2.1 (Bc.run (max most 0) (ol.take j)).1 w ol[j].2.2 S hA hb (by have := hIa.len; omega) hIa.h0 (by have := hIa.h1; omega) hIa.s0 (by have := hIa.s1; omega) hIa.nd) rfl fun _ _ => ⟨.inr fun _ h => h.pk [], ?_⟩)
            refine GD.done (by kernel_rfl) ?_
            refine GX.then ?_
            refine GC.draw 12 [] mo_ ?_
            refine GD.pure (i := 0) rfl (fun _ _ => rv_move rfl) (by kernel_rfl) (by repeat (first | exact noPanicPut_body | exact noPanicPut_cut | exact noPanicPut_cutE | refine noPanicPut_then ?_ | refine noPanicPut_blk ?_)) ?_
            refine GD.pure (i := 1) rfl (fun _ _ => rv_move rfl) (by kernel_rfl) (by repeat (first | exact noPanicPut_body | exact noPanicPut_cut | exact noPanicPut_cutE | refine noPanicPut_then ?_ | refine noPanicPut_blk ?_)) ?_
            refine GD.pure (i := 2) rfl (fun _ _ => rv_move rfl) (by kernel_rfl) (by repeat (first | exact noPanicPut_body | exact noPanicPut_cut | exact noPanicPut_cutE | refine noPanicPut_then ?_ | refine noPanicPut_blk ?_)) ?_
            refine GD.pure (i := 3) rfl (fun _ _ => rv_elem es_22 rfl rfl (by omega) (by omega)) (by kernel_rfl) (by repeat (first | exact noPanicPut_body | exact noPanicPut_cut | exact noPanicPut_cutE | refine noPanicPut_then ?_ | refine noPanicPut_blk ?_)) ?_
            refine GD.pure (i := 4) rfl (fun _ _ => rv_field fo_35_1 rfl rfl) (by kernel_rfl) (by repeat (first | exact noPanicPut_body | exact noPanicPut_cut | exact noPanicPut_cutE | refine noPanicPut_then ?_ | refine noPanicPut_blk ?_)) ?_
            refine GD.pure (i := 6) rfl (fun _ _ => rv_move rfl) (by kernel_rfl) (by repeat (first | exact noPanicPut_body | exact noPanicPut_cut | exact noPanicPut_cutE | refine noPanicPut_then ?_ | refine noPanicPut_blk ?_)) ?_
            refine GD.pure (i := 7) rfl (fun _ _ => rv_move rfl) (by kernel_rfl) (by repeat (first | exact noPanicPut_body | exact noPanicPut_cut | exact noPanicPut_cutE | refine noPanicPut_then ?_ | refine noPanicPut_blk ?_)) ?_
            refine GD.pure (i := 8) rfl (fun _ _ => rv_elem es_22 rfl rfl (by omega) (by omega)) (by kernel_rfl) (by repeat (first | exact noPanicPut_body | exact noPanicPut_cut | exact noPanicPut_cutE | refine noPanicPut_then ?_ | refine noPanicPut_blk ?_)) ?_
            refine GD.pure (i := 9) rfl (fun _ _ => rv_field fo_35_2 rfl rfl) (by kernel_rfl) (by repeat (first | exact noPanicPut_body | exact noPanicPut_cut | exact noPanicPut_cutE | refine noPanicPut_then ?_ | refine noPanicPut_blk ?_)) ?_
            refine GD.read (i := 5) rfl (rv_load ag_9 rfl (Hd.cell0 (op1 hC hlt) (fun h => h))) (by kernel_rfl) (by repeat (first | exact noPanicPut_body | exact noPanicPut_cut | exact noPanicPut_cutE | refine noPanicPut_then ?_ | refine noPanicPut_blk ?_)) ?_
            refine GD.read (i := 10) rfl (rv_load ag_3 rfl (Hd.cell0 (op2 hC hlt) (fun h => h))) (by kernel_rfl) (by repeat (first | exact noPanicPut_body | exact noPanicPut_cut | exact noPanicPut_cutE | refine noPanicPut_then ?_ | refine noPanicPut_blk ?_)) ?_
            refine GD.step (i := 11) (by kernel_rfl) rfl (ot_call hb_17 rfl (callOkM (k := 1) rfl fun w S _ hA hb => put_u q (max (most + more) 0) (Bc.run (max (most + more) 0) (ol.take j)).2.1 (Bc.run (max (most + more) 0) (ol.take j)).2.2 ol[j].2.1 (Bc.run (max (most + more) 0) (ol.take j)).1 w ol[j].2.2 S hA hb (by have := hIb.len; omega) hIb.h0 (by have := hIb.h1; omega) hIb.s0 (by have := hIb.s1; omega) hIb.nd) rfl fun _ _ => ⟨.inr fun _ h => h.pk [], ?_⟩)
            refine GD.done (by kernel_rfl) ?_
            refine GX.blk ?_
            refine GX.blk ?_
            refine GX.then ?_
            refine GC.reg ?_
            refine GL.val (rv_move rfl) rfl ?_
            refine GL.val (rv_add rfl rfl (by omega) (by omega)) rfl ?_
            refine GL.val (rv_assign rfl) rfl ?_
            refine GL.nil ?_
            have e : ∀ m z, Bc.act m z ol[j] = (Bc.pu m z.1 ol[j].2.1 ol[j].2.2, z.2.1, z.2.2) := fun m z => by simp [Bc.act, c5]
            exact GX.round (j + 1) (by omega) (by omega) (by repeat (first | exact Sub.nil | refine Sub.cons rfl ?_)) (fun w h => by dsimp only; rw [Bc.run_take (max most 0) ol j hlt, Bc.run_take (max (most + more) 0) ol j hlt, e, e]; exact h)
          · refine GC.seq ?_
            refine GC.reg ?_
            refine GL.val (rv_eqI rfl rfl) rfl ?_
            refine GL.val (rv_assign rfl) rfl ?_
            refine GL.nil ?_
            refine GX.then ?_
            first | refine GC.condP rfl (fun c6 => ?_) (fun c6 => ?_) | refine GC.cond rfl (fun c6 => ?_) (fun c6 => ?_)
            · refine GC.seq ?_
              refine GC.reg ?_
              refine GL.val (rv_move rfl) rfl ?_
              refine GL.val (rv_move rfl) rfl ?_
              refine GL.val (rv_move rfl) rfl ?_
              refine GL.val (rv_elem es_22 rfl rfl (by omega) (by omega)) rfl ?_
              refine GL.val (rv_field fo_35_1 rfl rfl) rfl ?_
              refine GL.val (rv_load ag_9 rfl (Hd.cell0 (op1 hC hlt) (fun h => h))) rfl ?_
              refine GL.step (ot_call hb_18 rfl (callOkM (k := 1) rfl fun w S _ hA hb => drop_u p (max most 0) (Bc.run (max most 0) (ol.take j)).2.1 (Bc.run (max most 0) (ol.take j)).2.2 ol[j].2.1 (Bc.run (max most 0) (ol.take j)).1 w S hA hb (by have := hIa.len; omega) hIa.h0 (by have := hIa.h1; omega) hIa.s0 (by have := hIa.s1; omega) hIa.nd) rfl fun _ _ => ?_)
              refine GL.nil ?_
              refine GX.then ?_
              refine GC.reg ?_
              refine GL.val (rv_move rfl) rfl ?_
              refine GL.val (rv_move rfl) rfl ?_
              refine GL.val (rv_move rfl) rfl ?_
              refine GL.val (rv_elem es_22 rfl rfl (by omega) (by omega)) rfl ?_
              refine GL.val (rv_field fo_35_1 rfl rfl) rfl ?_
              refine GL.val (rv_load ag_9 rfl (Hd.cell0 (op1 hC hlt) (fun h => h))) rfl ?_
              refine GL.step (ot_call hb_18 rfl (callOkM (k := 1) rfl fun w S _ hA hb => drop_u q (max (most + more) 0) (Bc.run (max (most + more) 0) (ol.take j)).2.1 (Bc.run (max (most + more) 0) (ol.take j)).2.2 ol[j].2.1 (Bc.run (max (most + more) 0) (ol.take j)).1 w S hA hb (by have := hIb.len; omega) hIb.h0 (by have := hIb.h1; omega) hIb.s0 (by have := hIb.s1; omega) hIb.nd) rfl fun _ _ => ?_)
              refine GL.nil ?_
              refine GX.blk ?_
              refine GX.blk ?_
              refine GX.then ?_
              refine GC.reg ?_
              refine GL.val (rv_move rfl) rfl ?_
              refine GL.val (rv_add rfl rfl (by omega) (by omega)) rfl ?_
              refine GL.val (rv_assign rfl) rfl ?_
              refine GL.nil ?_
              have e : ∀ m z, Bc.act m z ol[j] = (Bc.wo z.1 ol[j].2.1, z.2.1, z.2.2) := fun m z => by simp [Bc.act, c6]
              exact GX.round (j + 1) (by omega) (by omega) (by repeat (first | exact Sub.nil | refine Sub.cons rfl ?_)) (fun w h => by dsimp only; rw [Bc.run_take (max most 0) ol j hlt, Bc.run_take (max (most + more) 0) ol j hlt, e, e]; exact h)
            · refine GC.skip ?_
              refine GX.blk ?_
              refine GX.blk ?_
              refine GX.then ?_
              refine GC.reg ?_
              refine GL.val (rv_move rfl) rfl ?_
              refine GL.val (rv_add rfl rfl (by omega) (by omega)) rfl ?_
              refine GL.val (rv_assign rfl) rfl ?_
              refine GL.nil ?_
              have e : ∀ m z, Bc.act m z ol[j] = z := fun m z => by simp [Bc.act, c4, c5, c6]
              exact GX.round (j + 1) (by omega) (by omega) (by repeat (first | exact Sub.nil | refine Sub.cons rfl ?_)) (fun w h => by dsimp only; rw [Bc.run_take (max most 0) ol j hlt, Bc.run_take (max (most + more) 0) ol j hlt, e, e]; exact h)
      · have hIa := Bc.Inv.run (m := (max most 0)) (by omega) ol j (by omega)
        have hIb := Bc.Inv.run (m := (max (most + more) 0)) (by omega) ol j (by omega)
        have hT := Bc.two_run (m := (max most 0)) (n := (max (most + more) 0)) (by omega) (by omega) ol j hj
        have hla := hIa.len
        have hlb := hIb.len
        refine GC.exit ?_
        refine GX.then_exit ?_
        refine GX.then_exit ?_
        refine GX.blk_eq ?_
        refine GX.then ?_
        refine GC.seq ?_
        refine GC.reg ?_
        refine GL.val (rv_move rfl) rfl ?_
        refine GL.step (ot_call hb_15 rfl (callOkM (k := 1) rfl fun w S _ hA hb => keys_c p (max most 0) (Bc.run (max most 0) (ol.take j)).2.1 (Bc.run (max most 0) (ol.take j)).2.2 (Bc.run (max most 0) (ol.take j)).1 w S hA hb (by have := hIa.len; omega) hIa.h0 (by have := hIa.h1; omega) hIa.s0 (by have := hIa.s1; omega)) rfl fun ⟨A111, c111⟩ _ => ?_)
        refine GL.val (rv_assign rfl) rfl ?_
        refine GL.nil ?_
        refine GX.then ?_
        refine GC.seq ?_
        refine GC.seq ?_
        refine GC.reg ?_
        refine GL.val (rv_assign rfl) rfl ?_
        refine GL.nil ?_
        refine GX.then ?_
        refine GC.block ?_
        refine GC.loop (γ := Nat × (Int × Int) × (Int × Int)) (fun g => [(7, .pointer (some ⟨p, 0, none⟩)), (8, .pointer (some ⟨q, 0, none⟩)), (10, .slice A111 (Bc.run (max most 0) (ol.take j)).1.length c111), (11, .int .i64 (g.1 : Int))]) (fun g => [CcP p (max most 0) (Bc.asks (Bc.run (max most 0) (ol.take j)).1 ((Bc.Ky (Bc.run (max most 0) (ol.take j)).1).take g.1)) g.2.1.1 g.2.1.2, .row A111 c111 9 1 (Bc.run (max most 0) (ol.take j)).1.length ((Bc.run (max most 0) (ol.take j)).1.map fun q => .string q.1), CcP q (max (most + more) 0) (Bc.asks (Bc.run (max (most + more) 0) (ol.take j)).1 ((Bc.Ky (Bc.run (max most 0) (ol.take j)).1).take g.1)) g.2.2.1 g.2.2.2]) (fun g => g.1 ≤ (Bc.run (max most 0) (ol.take j)).1.length ∧ (0 ≤ g.2.1.1 ∧ g.2.1.1 ≤ 1000 + g.1) ∧ (0 ≤ g.2.1.2 ∧ g.2.1.2 ≤ 1000 + g.1) ∧ (0 ≤ g.2.2.1 ∧ g.2.2.1 ≤ 1000 + g.1) ∧ (0 ≤ g.2.2.2 ∧ g.2.2.2 ≤ 1000 + g.1)) (fun g => (Bc.run (max most 0) (ol.take j)).1.length - g.1) ((0, ((Bc.run (max most 0) (ol.take j)).2.1, (Bc.run (max most 0) (ol.take j)).2.2), ((Bc.run (max (most + more) 0) (ol.take j)).2.1, (Bc.run (max (most + more) 0) (ol.take j)).2.2))) (by have h1 := hIa.h0; have h2 := hIa.h1; have h3 := hIa.s0; have h4 := hIa.s1; have h5 := hIb.h0; have h6 := hIb.h1; have h7 := hIb.s0; have h8 := hIb.s1; dsimp only; omega) (by repeat (first | exact Sub.nil | refine Sub.cons rfl ?_)) (fun w h => h) (fun ⟨i, ⟨ha, sa⟩, ⟨hb_, sb⟩⟩ hP => ?_)
        dsimp only at hP ⊢
        refine GC.seq ?_
        refine GC.seq ?_
        refine GC.reg ?_
        refine GL.val (rv_move rfl) rfl ?_
        refine GL.val (rv_move rfl) rfl ?_
        refine GL.val (rv_lenSl Try.underlying24 rfl) rfl ?_
        refine GL.val (rv_lss rfl rfl) rfl ?_
        refine GL.nil ?_
        refine GX.then ?_
        first | refine GC.condP rfl (fun c7 => ?_) (fun c7 => ?_) | refine GC.cond rfl (fun c7 => ?_) (fun c7 => ?_)
        · have hi : i < (Bc.run (max most 0) (ol.take j)).1.length := by omega
          refine GC.rowForm (k := 1) rfl fun _ hc3 hf3 => ?_
          obtain ⟨b1, rfl⟩ := hf3.resolve_left (by omega)
          have hna := Bc.asks_nd ((Bc.Ky (Bc.run (max most 0) (ol.take j)).1).take i) hIa.nd
          have hnb := Bc.asks_nd ((Bc.Ky (Bc.run (max most 0) (ol.take j)).1).take i) hIb.nd
          have hxa := Bc.asks_hs ((Bc.Ky (Bc.run (max most 0) (ol.take j)).1).take i) (Bc.run (max most 0) (ol.take j)).1 (Bc.run (max most 0) (ol.take j)).1[i].1
          have hxb := Bc.asks_hs ((Bc.Ky (Bc.run (max most 0) (ol.take j)).1).take i) (Bc.run (max (most + more) 0) (ol.take j)).1 (Bc.run (max most 0) (ol.take j)).1[i].1
          have E0 := Bc.hs_get (Bc.run (max most 0) (ol.take j)).1 i hi
          have E1 := hxa.1.trans E0
          have E2 := hxb.1.trans (Bc.hs_sub _ hT.sub E0)
          have E3 := (hxa.2.trans (Bc.vl_sub _ hT.sub hIb.nd E0)).trans hxb.2.symm
          refine GC.skip ?_
          refine GX.then ?_
          refine GC.seq ?_
          refine GC.block ?_
          refine GC.seq ?_
          refine GC.reg ?_
          refine GL.val (rv_move rfl) rfl ?_
          refine GL.val (rv_move rfl) rfl ?_
          refine GL.val (rv_move rfl) rfl ?_
          refine GL.val (rv_elem es_24 rfl rfl (by omega) (by omega)) rfl ?_
          refine GL.val (rv_load ag_9 rfl (Hd.rowCell (k := 1) (u := .string (Bc.run (max most 0) (ol.take j)).1[i].1) rfl (by simp [hi]))) rfl ?_
          refine GL.step (ot_call hb_12 rfl (callOkM (k := 0) rfl fun w S _ hA hb => get_u p (max most 0) ha sa (Bc.run (max most 0) (ol.take j)).1[i].1 (Bc.asks (Bc.run (max most 0) (ol.take j)).1 ((Bc.Ky (Bc.run (max most 0) (ol.take j)).1).take i)) w S hA hb (by omega) (by omega) (by omega) (by omega) (by omega) hna.1) rfl fun _ _ => ?_)
          refine GL.val (rv_move rfl) rfl ?_
          refine GL.val (rv_extract rfl rfl) rfl ?_
          refine GL.val (rv_extract rfl rfl) rfl ?_
          refine GL.val (rv_assign rfl) rfl ?_
          refine GL.val (rv_assign rfl) rfl ?_
          refine GL.nil ?_
          refine GX.then ?_
          refine GC.seq ?_
          refine GC.reg ?_
          refine GL.val (rv_move rfl) rfl ?_
          refine GL.val (rv_move rfl) rfl ?_
          refine GL.val (rv_move rfl) rfl ?_
          refine GL.val (rv_elem es_24 rfl rfl (by omega) (by omega)) rfl ?_
          refine GL.val (rv_load ag_9 rfl (Hd.rowCell (k := 1) (u := .string (Bc.run (max most 0) (ol.take j)).1[i].1) rfl (by simp [hi]))) rfl ?_
          refine GL.step (ot_call hb_12 rfl (callOkM (k := 2) rfl fun w S _ hA hb => get_u q (max (most + more) 0) hb_ sb (Bc.run (max most 0) (ol.take j)).1[i].1 (Bc.asks (Bc.run (max (most + more) 0) (ol.take j)).1 ((Bc.Ky (Bc.run (max most 0) (ol.take j)).1).take i)) w S hA hb (by omega) (by omega) (by omega) (by omega) (by omega) hnb.1) rfl fun _ _ => ?_)
          refine GL.val (rv_move rfl) rfl ?_
          refine GL.val (rv_extract rfl rfl) rfl ?_
          refine GL.val (rv_extract rfl rfl) rfl ?_
          refine GL.val (rv_assign rfl) rfl ?_
          refine GL.val (rv_assign rfl) rfl ?_
          refine GL.nil ?_
          refine GX.then ?_
          refine GC.seq ?_
          refine GC.cutr ([(7, .pointer (some ⟨p, 0, none⟩)), (8, .pointer (some ⟨q, 0, none⟩)), (10, .slice (some ⟨b1, 0, none⟩) (Bc.run (max most 0) (ol.take j)).1.length c111), (11, .int .i64 (i : Int)), (146, .bool false)]) ([CcP q (max (most + more) 0) (Bc.ge (Bc.asks (Bc.run (max (most + more) 0) (ol.take j)).1 ((Bc.Ky (Bc.run (max most 0) (ol.take j)).1).take i)) (Bc.run (max most 0) (ol.take j)).1[i].1) (if Bc.hs (Bc.asks (Bc.run (max (most + more) 0) (ol.take j)).1 ((Bc.Ky (Bc.run (max most 0) (ol.take j)).1).take i)) (Bc.run (max most 0) (ol.take j)).1[i].1 = true then hb_ + 1 else hb_) (if Bc.hs (Bc.asks (Bc.run (max (most + more) 0) (ol.take j)).1 ((Bc.Ky (Bc.run (max most 0) (ol.take j)).1).take i)) (Bc.run (max most 0) (ol.take j)).1[i].1 = true then sb else sb + 1), CcP p (max most 0) (Bc.ge (Bc.asks (Bc.run (max most 0) (ol.take j)).1 ((Bc.Ky (Bc.run (max most 0) (ol.take j)).1).take i)) (Bc.run (max most 0) (ol.take j)).1[i].1) (if Bc.hs (Bc.asks (Bc.run (max most 0) (ol.take j)).1 ((Bc.Ky (Bc.run (max most 0) (ol.take j)).1).take i)) (Bc.run (max most 0) (ol.take j)).1[i].1 = true then ha + 1 else ha) (if Bc.hs (Bc.asks (Bc.run (max most 0) (ol.take j)).1 ((Bc.Ky (Bc.run (max most 0) (ol.take j)).1).take i)) (Bc.run (max most 0) (ol.take j)).1[i].1 = true then sa else sa + 1), .row (some ⟨b1, 0, none⟩) c111 9 1 (Bc.run (max most 0) (ol.take j)).1.length ((Bc.run (max most 0) (ol.take j)).1.map fun q => .string q.1)]) ?_ ?_
          · simp only [E1, E2, E3]
            refine GC.reg ?_
            refine GL.val (rv_move rfl) rfl ?_
            refine GL.val (rv_not rfl) rfl ?_
            refine GL.val (rv_move rfl) rfl ?_
            first | refine GL.skipG rfl rfl ?_ | refine GL.skipU rfl rfl ?_ | refine GL.valT rfl (rv_move rfl) rfl ?_ | refine GL.valG rfl (fun hb => rv_move (by first | exact evb rfl hb | rfl)) rfl ?_
            first | refine GL.skipG rfl rfl ?_ | refine GL.skipU rfl rfl ?_ | refine GL.valT rfl (rv_not rfl) rfl ?_ | refine GL.valG rfl (fun hb => rv_not (by first | exact evb rfl hb | rfl)) rfl ?_
            refine GL.val ((by first | exact rv_orF rfl rfl rfl | exact rv_orT rfl rfl rfl | exact rv_pickOr rfl rfl rfl)) rfl ?_
            refine GL.val (rv_move rfl) rfl ?_
            first | refine GL.skipG rfl rfl ?_ | refine GL.skipU rfl rfl ?_ | refine GL.valT rfl (rv_move rfl) rfl ?_ | refine GL.valG rfl (fun hb => rv_move (by first | exact evb rfl hb | rfl)) rfl ?_
            first | refine GL.skipG rfl rfl ?_ | refine GL.skipU rfl rfl ?_ | refine GL.valT rfl (rv_move rfl) rfl ?_ | refine GL.valG rfl (fun hb => rv_move (by first | exact evb rfl hb | rfl)) rfl ?_
            first | refine GL.skipG rfl rfl ?_ | refine GL.skipU rfl rfl ?_ | refine GL.valT rfl (rv_to (v' := .bool false) (rv_neI rfl rfl) (by simp)) rfl ?_ | refine GL.valG rfl (fun hb => rv_to (v' := .bool false) (rv_neI (by first | exact evb rfl hb | rfl) (by first | exact evb rfl hb | rfl)) (by simp)) rfl ?_
            refine GL.val ((by first | exact rv_orF rfl rfl rfl | exact rv_orT rfl rfl rfl | exact rv_pickOr rfl rfl rfl)) rfl ?_
            refine GL.nil ?_
            exact GX.cut (by repeat (first | exact Sub.nil | refine Sub.cons rfl ?_)) (fun w h => h)
          refine GX.then ?_
          first | refine GC.condP rfl (fun c8 => ?_) (fun c8 => ?_) | refine GC.cond rfl (fun c8 => ?_) (fun c8 => ?_)
          · exact absurd c8 (by simp)
          · refine GC.skip ?_
            refine GX.blk ?_
            refine GX.then ?_
            refine GC.reg ?_
            refine GL.val (rv_move rfl) rfl ?_
            refine GL.val (rv_add rfl rfl (by omega) (by omega)) rfl ?_
            refine GL.val (rv_assign rfl) rfl ?_
            refine GL.nil ?_
            exact GX.round (i + 1, ((if Bc.hs (Bc.asks (Bc.run (max most 0) (ol.take j)).1 ((Bc.Ky (Bc.run (max most 0) (ol.take j)).1).take i)) (Bc.run (max most 0) (ol.take j)).1[i].1 = true then ha + 1 else ha), (if Bc.hs (Bc.asks (Bc.run (max most 0) (ol.take j)).1 ((Bc.Ky (Bc.run (max most 0) (ol.take j)).1).take i)) (Bc.run (max most 0) (ol.take j)).1[i].1 = true then sa else sa + 1)), ((if Bc.hs (Bc.asks (Bc.run (max (most + more) 0) (ol.take j)).1 ((Bc.Ky (Bc.run (max most 0) (ol.take j)).1).take i)) (Bc.run (max most 0) (ol.take j)).1[i].1 = true then hb_ + 1 else hb_), (if Bc.hs (Bc.asks (Bc.run (max (most + more) 0) (ol.take j)).1 ((Bc.Ky (Bc.run (max most 0) (ol.take j)).1).take i)) (Bc.run (max most 0) (ol.take j)).1[i].1 = true then sb else sb + 1))) (by show _ - (i + 1) < _ - i; omega) (by dsimp only; refine ⟨by omega, ⟨?_, ?_⟩, ⟨?_, ?_⟩, ⟨?_, ?_⟩, ⟨?_, ?_⟩⟩ <;> split <;> omega) (by repeat (first | exact Sub.nil | refine Sub.cons rfl ?_)) (fun w h => by dsimp only; rw [Bc.asks_step _ _ i hi, Bc.asks_step _ _ i hi]; exact (h.pull (k := 2) rfl).pull (k := 2) rfl)
        · refine GC.exit ?_
          refine GX.then_exit ?_
          refine GX.then_exit ?_
          refine GX.blk_eq ?_
          refine GX.then ?_
          refine GC.seq ?_
          refine GC.reg ?_
          refine GL.step (ot_call hb_10 rfl (callOk fun w hh => works_c w) rfl fun _ _ => ?_)
          refine GL.val (rv_assign rfl) rfl ?_
          refine GL.nil ?_
          refine GX.then ?_
          refine GC.ret ?_
          refine GX.ret1 rfl (RR.tmp rfl) ?_
          exact fun w1 h1 => ⟨(), rfl, h1.take 0, trivial⟩
end Go.Proofs.Ytjbnblkefhpibaa
