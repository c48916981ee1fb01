import Derived.Test.YtaocclmdlpnjbaaS
set_option linter.unusedVariables false
set_option linter.unusedSimpArgs false
namespace Go.Proofs.Ytaocclmdlpnjbaa
open Go Go.RowKit Go.Bz
theorem hb_29 : hasBody Try.prog 29 = true := by kernel_rfl
theorem hb_30 : hasBody Try.prog 30 = true := by kernel_rfl
theorem hb_32 : hasBody Try.prog 32 = true := by kernel_rfl
theorem hb_36 : hasBody Try.prog 36 = true := by kernel_rfl
set_option maxRecDepth 100000 in
set_option maxHeartbeats 1000000 in
theorem digests_law (A1 : Option Addr) (n1 c1 : Nat) (key : Sh.B) (A2 : Option Addr) (n2 c2 : Nat) (b : Sh.B) (w : World) (hR1 : SlR w A1 (byts key)) (hl1 : key.length = n1) (hc1 : n1 ≤ c1) (hR2 : SlR w A2 (byts b)) (hl2 : b.length = n2) (hc2 : n2 ≤ c2) : Calls Try.prog 7 [.slice A1 n1 c1, .slice A2 n2 c2].toArray w fun e w' => ∃ _g : Unit, e = .returned (.bool true) ∧ St noB w w' [] ∧ True := by
  refine GC.calls Try.func7 rfl rfl (St.begin _) ?_
  subst hl1 hl2
  refine GC.seq ?_
  refine GC.reg ?_
  refine GL.val (rv_assign rfl) rfl ?_
  refine GL.nil ?_
  refine GX.then ?_
  refine GC.seq ?_
  refine GC.seq ?_
  refine GC.cutq (γ := Unit) [1, 0] [] (fun g Lk => (10, .bool (decide (32768 < key.length ∨ 32768 < b.length))) :: Lk) (fun g Fk => Fk) (fun g => True) rfl rfl ?_ (fun _ _ => ?_)
  · rcases (by omega : (32768 < key.length) ∨ (¬ 32768 < key.length ∧ 32768 < b.length) ∨ (¬ 32768 < key.length ∧ ¬ 32768 < b.length)) with h | h | h
    · have hb1 : decide (32768 < key.length) = true := decide_eq_true (by omega)
      have hb2 : decide (32768 < b.length) = decide (32768 < b.length) := rfl
      rw [show decide (32768 < key.length ∨ 32768 < b.length) = true from decide_eq_true (by omega)]
      refine GC.reg ?_
      refine GL.val (rv_move rfl) rfl ?_
      refine GL.step (ot_call hb_29 rfl (callOk fun w hh => long_b _ A1 _ c1 w hb1) rfl fun _ _ => ?_)
      refine GL.val (rv_move rfl) rfl ?_
      first | refine GL.skipG rfl rfl ?_ | refine GL.skipU rfl rfl ?_ | refine GL.valT rfl (rv_move rfl) rfl ?_ | refine GL.valG rfl (fun hb => rv_move (by first | exact evb rfl hb | rfl)) rfl ?_
      first | refine GL.skipG rfl rfl ?_ | refine GL.skipU rfl rfl ?_ | refine GL.stepG rfl (ot_call hb_29 rfl (callOk fun w hh => long_b _ A2 _ c2 w hb2) rfl fun _ _ => ?_)
      refine GL.val ((by first | exact rv_orF rfl rfl rfl | exact rv_orT rfl rfl rfl | exact rv_pickOr rfl rfl rfl)) rfl ?_
      refine GL.nil ?_
      exact GX.cutq () trivial (by repeat (first | exact Sub.nil | refine Sub.cons rfl ?_)) (fun w9 h => by
          exact h)
    · have hb1 : decide (32768 < key.length) = false := decide_eq_false (by omega)
      have hb2 : decide (32768 < b.length) = true := decide_eq_true (by omega)
      rw [show decide (32768 < key.length ∨ 32768 < b.length) = true from decide_eq_true (by omega)]
      refine GC.reg ?_
      refine GL.val (rv_move rfl) rfl ?_
      refine GL.step (ot_call hb_29 rfl (callOk fun w hh => long_b _ A1 _ c1 w hb1) rfl fun _ _ => ?_)
      refine GL.val (rv_move rfl) rfl ?_
      first | refine GL.skipG rfl rfl ?_ | refine GL.skipU rfl rfl ?_ | refine GL.valT rfl (rv_move rfl) rfl ?_ | refine GL.valG rfl (fun hb => rv_move (by first | exact evb rfl hb | rfl)) rfl ?_
      first | refine GL.skipG rfl rfl ?_ | refine GL.skipU rfl rfl ?_ | refine GL.stepG rfl (ot_call hb_29 rfl (callOk fun w hh => long_b _ A2 _ c2 w hb2) rfl fun _ _ => ?_)
      refine GL.val ((by first | exact rv_orF rfl rfl rfl | exact rv_orT rfl rfl rfl | exact rv_pickOr rfl rfl rfl)) rfl ?_
      refine GL.nil ?_
      exact GX.cutq () trivial (by repeat (first | exact Sub.nil | refine Sub.cons rfl ?_)) (fun w9 h => by
          exact h)
    · have hb1 : decide (32768 < key.length) = false := decide_eq_false (by omega)
      have hb2 : decide (32768 < b.length) = false := decide_eq_false (by omega)
      rw [show decide (32768 < key.length ∨ 32768 < b.length) = false from decide_eq_false (by omega)]
      refine GC.reg ?_
      refine GL.val (rv_move rfl) rfl ?_
      refine GL.step (ot_call hb_29 rfl (callOk fun w hh => long_b _ A1 _ c1 w hb1) rfl fun _ _ => ?_)
      refine GL.val (rv_move rfl) rfl ?_
      first | refine GL.skipG rfl rfl ?_ | refine GL.skipU rfl rfl ?_ | refine GL.valT rfl (rv_move rfl) rfl ?_ | refine GL.valG rfl (fun hb => rv_move (by first | exact evb rfl hb | rfl)) rfl ?_
      first | refine GL.skipG rfl rfl ?_ | refine GL.skipU rfl rfl ?_ | refine GL.stepG rfl (ot_call hb_29 rfl (callOk fun w hh => long_b _ A2 _ c2 w hb2) rfl fun _ _ => ?_)
      refine GL.val ((by first | exact rv_orF rfl rfl rfl | exact rv_orT rfl rfl rfl | exact rv_pickOr rfl rfl rfl)) rfl ?_
      refine GL.nil ?_
      exact GX.cutq () trivial (by repeat (first | exact Sub.nil | refine Sub.cons rfl ?_)) (fun w9 h => by
          exact h)
  refine GX.then ?_
  first | refine GC.condP rfl (fun c10 => ?_) (fun c10 => ?_) | refine GC.cond rfl (fun c10 => ?_) (fun c10 => ?_)
  · refine GC.seq ?_
    refine GC.reg ?_
    refine GL.step (ot_call hb_30 rfl (callOk fun w hh => works2_c w) rfl fun _ _ => ?_)
    refine GL.val (rv_assign rfl) rfl ?_
    refine GL.nil ?_
    refine GX.then ?_
    refine GC.ret ?_
    refine GX.then_ret ?_
    refine GX.ret1 rfl (RR.tmp rfl) ?_
    exact fun w9 h => ⟨(), rfl, by
        exact h, trivial⟩
  · have hf : ¬ (32768 < key.length ∨ 32768 < b.length) := by simpa using c10
    refine GC.skip ?_
    refine GX.then ?_
    refine GC.seq ?_
    refine GC.reg ?_
    refine GL.val (rv_move rfl) rfl ?_
    refine GL.val (rv_move rfl) rfl ?_
    refine GL.step (ot_buildSlice ei_48 rfl rfl rfl rfl rfl rfl fun b14 => ?_)
    refine GL.step (ot_call hb_31 rfl (callOk fun w hh => mac_b A1 _ c1 key (some ⟨b14, 0, none⟩) 1 1 [(b, (A2, c2))] (b) (by simp [cat]) w (hh.rd0n hR1) rfl hc1 (by omega) (slr_cl hh (k := 0) rfl rfl) (al (hh.rd0n hR2) an) (al (hc2) an) rfl (by decide) (by first | decide | omega | (simp only [List.length_append]; omega) | (simp only [List.length_append, List.length_nil]; omega))) rfl fun _ _ => ?_)
    refine GL.val (rv_move rfl) rfl ?_
    refine GL.val (rv_move rfl) rfl ?_
    refine GL.step (ot_call hb_32 rfl (callOk fun w hh => rmac_c A1 _ c1 key A2 _ c2 b w (hh.rd0n hR1) rfl hc1 (by omega) (hh.rd0n hR2) rfl (by omega)) rfl fun _ _ => ?_)
    refine GL.val (rv_to (v' := .bool true) (rv_eq24 rfl rfl (mac_len _ _) (mac_len _ _)) (by simp)) rfl ?_
    refine GL.val (rv_move rfl) rfl ?_
    first | refine GL.skipG rfl rfl ?_ | refine GL.skipU rfl rfl ?_ | refine GL.stepG rfl (ot_call hb_30 rfl (callOk fun w hh => works2_c w) rfl fun _ _ => ?_)
    refine GL.val ((by first | exact rv_andT rfl rfl rfl | exact rv_andF rfl rfl rfl | exact rv_pickAnd rfl rfl rfl)) rfl ?_
    refine GL.val (rv_assign rfl) rfl ?_
    refine GL.nil ?_
    refine GX.then ?_
    refine GC.ret ?_
    refine GX.ret1 rfl (RR.tmp rfl) ?_
    exact fun w9 h => ⟨(), rfl, by
        have h := h.sel [] rfl rfl
        exact h, trivial⟩
set_option maxRecDepth 100000 in
set_option maxHeartbeats 1000000 in
theorem parts_law (A1 : Option Addr) (n1 c1 : Nat) (key : Sh.B) (A2 : Option Addr) (n2 c2 : Nat) (a : Sh.B) (A3 : Option Addr) (n3 c3 : Nat) (b : Sh.B) (A4 : Option Addr) (n4 c4 : Nat) (d : Sh.B) (w : World) (hR1 : SlR w A1 (byts key)) (hl1 : key.length = n1) (hc1 : n1 ≤ c1) (hR2 : SlR w A2 (byts a)) (hl2 : a.length = n2) (hc2 : n2 ≤ c2) (hR3 : SlR w A3 (byts b)) (hl3 : b.length = n3) (hc3 : n3 ≤ c3) (hR4 : SlR w A4 (byts d)) (hl4 : d.length = n4) (hc4 : n4 ≤ c4) : Calls Try.prog 8 [.slice A1 n1 c1, .slice A2 n2 c2, .slice A3 n3 c3, .slice A4 n4 c4].toArray w fun e w' => ∃ _g : Unit, e = .returned (.bool true) ∧ St noB w w' [] ∧ True := by
  refine GC.calls Try.func8 rfl rfl (St.begin _) ?_
  subst hl1 hl2 hl3 hl4
  refine GC.seq ?_
  refine GC.reg ?_
  refine GL.val (rv_assign rfl) rfl ?_
  refine GL.nil ?_
  refine GX.then ?_
  refine GC.seq ?_
  refine GC.seq ?_
  refine GC.cutq (γ := Unit) [3, 2, 1, 0] [] (fun g Lk => (23, .bool (decide (32768 < key.length ∨ 32768 < a.length ∨ 32768 < b.length ∨ 32768 < d.length))) :: Lk) (fun g Fk => Fk) (fun g => True) rfl rfl ?_ (fun _ _ => ?_)
  · rcases (by omega : (32768 < key.length) ∨ (¬ 32768 < key.length ∧ 32768 < a.length) ∨ (¬ 32768 < key.length ∧ ¬ 32768 < a.length ∧ 32768 < b.length) ∨ (¬ 32768 < key.length ∧ ¬ 32768 < a.length ∧ ¬ 32768 < b.length ∧ 32768 < d.length) ∨ (¬ 32768 < key.length ∧ ¬ 32768 < a.length ∧ ¬ 32768 < b.length ∧ ¬ 32768 < d.length)) with h | h | h | h | h
    · have hb1 : decide (32768 < key.length) = true := decide_eq_true (by omega)
      have hb2 : decide (32768 < a.length) = decide (32768 < a.length) := rfl
      have hb3 : decide (32768 < b.length) = decide (32768 < b.length) := rfl
      have hb4 : decide (32768 < d.length) = decide (32768 < d.length) := rfl
      rw [show decide (32768 < key.length ∨ 32768 < a.length ∨ 32768 < b.length ∨ 32768 < d.length) = true from decide_eq_true (by omega)]
      refine GC.reg ?_
      refine GL.val (rv_move rfl) rfl ?_
      refine GL.step (ot_call hb_29 rfl (callOk fun w hh => long_b _ A1 _ c1 w hb1) rfl fun _ _ => ?_)
      refine GL.val (rv_move rfl) rfl ?_
      first | refine GL.skipG rfl rfl ?_ | refine GL.skipU rfl rfl ?_ | refine GL.valT rfl (rv_move rfl) rfl ?_ | refine GL.valG rfl (fun hb => rv_move (by first | exact evb rfl hb | rfl)) rfl ?_
      first | refine GL.skipG rfl rfl ?_ | refine GL.skipU rfl rfl ?_ | refine GL.stepG rfl (ot_call hb_29 rfl (callOk fun w hh => long_b _ A2 _ c2 w hb2) rfl fun _ _ => ?_)
      refine GL.val ((by first | exact rv_orF rfl rfl rfl | exact rv_orT rfl rfl rfl | exact rv_pickOr rfl rfl rfl)) rfl ?_
      refine GL.val (rv_move rfl) rfl ?_
      first | refine GL.skipG rfl rfl ?_ | refine GL.skipU rfl rfl ?_ | refine GL.valT rfl (rv_move rfl) rfl ?_ | refine GL.valG rfl (fun hb => rv_move (by first | exact evb rfl hb | rfl)) rfl ?_
      first | refine GL.skipG rfl rfl ?_ | refine GL.skipU rfl rfl ?_ | refine GL.stepG rfl (ot_call hb_29 rfl (callOk fun w hh => long_b _ A3 _ c3 w hb3) rfl fun _ _ => ?_)
      refine GL.val ((by first | exact rv_orF rfl rfl rfl | exact rv_orT rfl rfl rfl | exact rv_pickOr rfl rfl rfl)) rfl ?_
      refine GL.val (rv_move rfl) rfl ?_
      first | refine GL.skipG rfl rfl ?_ | refine GL.skipU rfl rfl ?_ | refine GL.valT rfl (rv_move rfl) rfl ?_ | refine GL.valG rfl (fun hb => rv_move (by first | exact evb rfl hb | rfl)) rfl ?_
      first | refine GL.skipG rfl rfl ?_ | refine GL.skipU rfl rfl ?_ | refine GL.stepG rfl (ot_call hb_29 rfl (callOk fun w hh => long_b _ A4 _ c4 w hb4) rfl fun _ _ => ?_)
      refine GL.val ((by first | exact rv_orF rfl rfl rfl | exact rv_orT rfl rfl rfl | exact rv_pickOr rfl rfl rfl)) rfl ?_
      refine GL.nil ?_
      exact GX.cutq () trivial (by repeat (first | exact Sub.nil | refine Sub.cons rfl ?_)) (fun w9 h => by
          exact h)
    · have hb1 : decide (32768 < key.length) = false := decide_eq_false (by omega)
      have hb2 : decide (32768 < a.length) = true := decide_eq_true (by omega)
      have hb3 : decide (32768 < b.length) = decide (32768 < b.length) := rfl
      have hb4 : decide (32768 < d.length) = decide (32768 < d.length) := rfl
      rw [show decide (32768 < key.length ∨ 32768 < a.length ∨ 32768 < b.length ∨ 32768 < d.length) = true from decide_eq_true (by omega)]
      refine GC.reg ?_
      refine GL.val (rv_move rfl) rfl ?_
      refine GL.step (ot_call hb_29 rfl (callOk fun w hh => long_b _ A1 _ c1 w hb1) rfl fun _ _ => ?_)
      refine GL.val (rv_move rfl) rfl ?_
      first | refine GL.skipG rfl rfl ?_ | refine GL.skipU rfl rfl ?_ | refine GL.valT rfl (rv_move rfl) rfl ?_ | refine GL.valG rfl (fun hb => rv_move (by first | exact evb rfl hb | rfl)) rfl ?_
      first | refine GL.skipG rfl rfl ?_ | refine GL.skipU rfl rfl ?_ | refine GL.stepG rfl (ot_call hb_29 rfl (callOk fun w hh => long_b _ A2 _ c2 w hb2) rfl fun _ _ => ?_)
      refine GL.val ((by first | exact rv_orF rfl rfl rfl | exact rv_orT rfl rfl rfl | exact rv_pickOr rfl rfl rfl)) rfl ?_
      refine GL.val (rv_move rfl) rfl ?_
      first | refine GL.skipG rfl rfl ?_ | refine GL.skipU rfl rfl ?_ | refine GL.valT rfl (rv_move rfl) rfl ?_ | refine GL.valG rfl (fun hb => rv_move (by first | exact evb rfl hb | rfl)) rfl ?_
      first | refine GL.skipG rfl rfl ?_ | refine GL.skipU rfl rfl ?_ | refine GL.stepG rfl (ot_call hb_29 rfl (callOk fun w hh => long_b _ A3 _ c3 w hb3) rfl fun _ _ => ?_)
      refine GL.val ((by first | exact rv_orF rfl rfl rfl | exact rv_orT rfl rfl rfl | exact rv_pickOr rfl rfl rfl)) rfl ?_
      refine GL.val (rv_move rfl) rfl ?_
      first | refine GL.skipG rfl rfl ?_ | refine GL.skipU rfl rfl ?_ | refine GL.valT rfl (rv_move rfl) rfl ?_ | refine GL.valG rfl (fun hb => rv_move (by first | exact evb rfl hb | rfl)) rfl ?_
      first | refine GL.skipG rfl rfl ?_ | refine GL.skipU rfl rfl ?_ | refine GL.stepG rfl (ot_call hb_29 rfl (callOk fun w hh => long_b _ A4 _ c4 w hb4) rfl fun _ _ => ?_)
      refine GL.val ((by first | exact rv_orF rfl rfl rfl | exact rv_orT rfl rfl rfl | exact rv_pickOr rfl rfl rfl)) rfl ?_
      refine GL.nil ?_
      exact GX.cutq () trivial (by repeat (first | exact Sub.nil | refine Sub.cons rfl ?_)) (fun w9 h => by
          exact h)
    · have hb1 : decide (32768 < key.length) = false := decide_eq_false (by omega)
      have hb2 : decide (32768 < a.length) = false := decide_eq_false (by omega)
      have hb3 : decide (32768 < b.length) = true := decide_eq_true (by omega)
      have hb4 : decide (32768 < d.length) = decide (32768 < d.length) := rfl
      rw [show decide (32768 < key.length ∨ 32768 < a.length ∨ 32768 < b.length ∨ 32768 < d.length) = true from decide_eq_true (by omega)]
      refine GC.reg ?_
      refine GL.val (rv_move rfl) rfl ?_
      refine GL.step (ot_call hb_29 rfl (callOk fun w hh => long_b _ A1 _ c1 w hb1) rfl fun _ _ => ?_)
      refine GL.val (rv_move rfl) rfl ?_
      first | refine GL.skipG rfl rfl ?_ | refine GL.skipU rfl rfl ?_ | refine GL.valT rfl (rv_move rfl) rfl ?_ | refine GL.valG rfl (fun hb => rv_move (by first | exact evb rfl hb | rfl)) rfl ?_
      first | refine GL.skipG rfl rfl ?_ | refine GL.skipU rfl rfl ?_ | refine GL.stepG rfl (ot_call hb_29 rfl (callOk fun w hh => long_b _ A2 _ c2 w hb2) rfl fun _ _ => ?_)
      refine GL.val ((by first | exact rv_orF rfl rfl rfl | exact rv_orT rfl rfl rfl | exact rv_pickOr rfl rfl rfl)) rfl ?_
      refine GL.val (rv_move rfl) rfl ?_
      first | refine GL.skipG rfl rfl ?_ | refine GL.skipU rfl rfl ?_ | refine GL.valT rfl (rv_move rfl) rfl ?_ | refine GL.valG rfl (fun hb => rv_move (by first | exact evb rfl hb | rfl)) rfl ?_
      first | refine GL.skipG rfl rfl ?_ | refine GL.skipU rfl rfl ?_ | refine GL.stepG rfl (ot_call hb_29 rfl (callOk fun w hh => long_b _ A3 _ c3 w hb3) rfl fun _ _ => ?_)
      refine GL.val ((by first | exact rv_orF rfl rfl rfl | exact rv_orT rfl rfl rfl | exact rv_pickOr rfl rfl rfl)) rfl ?_
      refine GL.val (rv_move rfl) rfl ?_
      first | refine GL.skipG rfl rfl ?_ | refine GL.skipU rfl rfl ?_ | refine GL.valT rfl (rv_move rfl) rfl ?_ | refine GL.valG rfl (fun hb => rv_move (by first | exact evb rfl hb | rfl)) rfl ?_
      first | refine GL.skipG rfl rfl ?_ | refine GL.skipU rfl rfl ?_ | refine GL.stepG rfl (ot_call hb_29 rfl (callOk fun w hh => long_b _ A4 _ c4 w hb4) rfl fun _ _ => ?_)
      refine GL.val ((by first | exact rv_orF rfl rfl rfl | exact rv_orT rfl rfl rfl | exact rv_pickOr rfl rfl rfl)) rfl ?_
      refine GL.nil ?_
      exact GX.cutq () trivial (by repeat (first | exact Sub.nil | refine Sub.cons rfl ?_)) (fun w9 h => by
          exact h)
    · have hb1 : decide (32768 < key.length) = false := decide_eq_false (by omega)
      have hb2 : decide (32768 < a.length) = false := decide_eq_false (by omega)
      have hb3 : decide (32768 < b.length) = false := decide_eq_false (by omega)
      have hb4 : decide (32768 < d.length) = true := decide_eq_true (by omega)
      rw [show decide (32768 < key.length ∨ 32768 < a.length ∨ 32768 < b.length ∨ 32768 < d.length) = true from decide_eq_true (by omega)]
      refine GC.reg ?_
      refine GL.val (rv_move rfl) rfl ?_
      refine GL.step (ot_call hb_29 rfl (callOk fun w hh => long_b _ A1 _ c1 w hb1) rfl fun _ _ => ?_)
      refine GL.val (rv_move rfl) rfl ?_
      first | refine GL.skipG rfl rfl ?_ | refine GL.skipU rfl rfl ?_ | refine GL.valT rfl (rv_move rfl) rfl ?_ | refine GL.valG rfl (fun hb => rv_move (by first | exact evb rfl hb | rfl)) rfl ?_
      first | refine GL.skipG rfl rfl ?_ | refine GL.skipU rfl rfl ?_ | refine GL.stepG rfl (ot_call hb_29 rfl (callOk fun w hh => long_b _ A2 _ c2 w hb2) rfl fun _ _ => ?_)
      refine GL.val ((by first | exact rv_orF rfl rfl rfl | exact rv_orT rfl rfl rfl | exact rv_pickOr rfl rfl rfl)) rfl ?_
      refine GL.val (rv_move rfl) rfl ?_
      first | refine GL.skipG rfl rfl ?_ | refine GL.skipU rfl rfl ?_ | refine GL.valT rfl (rv_move rfl) rfl ?_ | refine GL.valG rfl (fun hb => rv_move (by first | exact evb rfl hb | rfl)) rfl ?_
      first | refine GL.skipG rfl rfl ?_ | refine GL.skipU rfl rfl ?_ | refine GL.stepG rfl (ot_call hb_29 rfl (callOk fun w hh => long_b _ A3 _ c3 w hb3) rfl fun _ _ => ?_)
      refine GL.val ((by first | exact rv_orF rfl rfl rfl | exact rv_orT rfl rfl rfl | exact rv_pickOr rfl rfl rfl)) rfl ?_
      refine GL.val (rv_move rfl) rfl ?_
      first | refine GL.skipG rfl rfl ?_ | refine GL.skipU rfl rfl ?_ | refine GL.valT rfl (rv_move rfl) rfl ?_ | refine GL.valG rfl (fun hb => rv_move (by first | exact evb rfl hb | rfl)) rfl ?_
      first | refine GL.skipG rfl rfl ?_ | refine GL.skipU rfl rfl ?_ | refine GL.stepG rfl (ot_call hb_29 rfl (callOk fun w hh => long_b _ A4 _ c4 w hb4) rfl fun _ _ => ?_)
      refine GL.val ((by first | exact rv_orF rfl rfl rfl | exact rv_orT rfl rfl rfl | exact rv_pickOr rfl rfl rfl)) rfl ?_
      refine GL.nil ?_
      exact GX.cutq () trivial (by repeat (first | exact Sub.nil | refine Sub.cons rfl ?_)) (fun w9 h => by
          exact h)
    · have hb1 : decide (32768 < key.length) = false := decide_eq_false (by omega)
      have hb2 : decide (32768 < a.length) = false := decide_eq_false (by omega)
      have hb3 : decide (32768 < b.length) = false := decide_eq_false (by omega)
      have hb4 : decide (32768 < d.length) = false := decide_eq_false (by omega)
      rw [show decide (32768 < key.length ∨ 32768 < a.length ∨ 32768 < b.length ∨ 32768 < d.length) = false from decide_eq_false (by omega)]
      refine GC.reg ?_
      refine GL.val (rv_move rfl) rfl ?_
      refine GL.step (ot_call hb_29 rfl (callOk fun w hh => long_b _ A1 _ c1 w hb1) rfl fun _ _ => ?_)
      refine GL.val (rv_move rfl) rfl ?_
      first | refine GL.skipG rfl rfl ?_ | refine GL.skipU rfl rfl ?_ | refine GL.valT rfl (rv_move rfl) rfl ?_ | refine GL.valG rfl (fun hb => rv_move (by first | exact evb rfl hb | rfl)) rfl ?_
      first | refine GL.skipG rfl rfl ?_ | refine GL.skipU rfl rfl ?_ | refine GL.stepG rfl (ot_call hb_29 rfl (callOk fun w hh => long_b _ A2 _ c2 w hb2) rfl fun _ _ => ?_)
      refine GL.val ((by first | exact rv_orF rfl rfl rfl | exact rv_orT rfl rfl rfl | exact rv_pickOr rfl rfl rfl)) rfl ?_
      refine GL.val (rv_move rfl) rfl ?_
      first | refine GL.skipG rfl rfl ?_ | refine GL.skipU rfl rfl ?_ | refine GL.valT rfl (rv_move rfl) rfl ?_ | refine GL.valG rfl (fun hb => rv_move (by first | exact evb rfl hb | rfl)) rfl ?_
      first | refine GL.skipG rfl rfl ?_ | refine GL.skipU rfl rfl ?_ | refine GL.stepG rfl (ot_call hb_29 rfl (callOk fun w hh => long_b _ A3 _ c3 w hb3) rfl fun _ _ => ?_)
      refine GL.val ((by first | exact rv_orF rfl rfl rfl | exact rv_orT rfl rfl rfl | exact rv_pickOr rfl rfl rfl)) rfl ?_
      refine GL.val (rv_move rfl) rfl ?_
      first | refine GL.skipG rfl rfl ?_ | refine GL.skipU rfl rfl ?_ | refine GL.valT rfl (rv_move rfl) rfl ?_ | refine GL.valG rfl (fun hb => rv_move (by first | exact evb rfl hb | rfl)) rfl ?_
      first | refine GL.skipG rfl rfl ?_ | refine GL.skipU rfl rfl ?_ | refine GL.stepG rfl (ot_call hb_29 rfl (callOk fun w hh => long_b _ A4 _ c4 w hb4) rfl fun _ _ => ?_)
      refine GL.val ((by first | exact rv_orF rfl rfl rfl | exact rv_orT rfl rfl rfl | exact rv_pickOr rfl rfl rfl)) rfl ?_
      refine GL.nil ?_
      exact GX.cutq () trivial (by repeat (first | exact Sub.nil | refine Sub.cons rfl ?_)) (fun w9 h => by
          exact h)
  refine GX.then ?_
  first | refine GC.condP rfl (fun c23 => ?_) (fun c23 => ?_) | refine GC.cond rfl (fun c23 => ?_) (fun c23 => ?_)
  · refine GC.seq ?_
    refine GC.reg ?_
    refine GL.step (ot_call hb_30 rfl (callOk fun w hh => works2_c w) rfl fun _ _ => ?_)
    refine GL.val (rv_assign rfl) rfl ?_
    refine GL.nil ?_
    refine GX.then ?_
    refine GC.ret ?_
    refine GX.then_ret ?_
    refine GX.ret1 rfl (RR.tmp rfl) ?_
    exact fun w9 h => ⟨(), rfl, by
        exact h, trivial⟩
  · have hf : ¬ (32768 < key.length ∨ 32768 < a.length ∨ 32768 < b.length ∨ 32768 < d.length) := by simpa using c23
    refine GC.skip ?_
    refine GX.then ?_
    refine GC.seq ?_
    refine GC.reg ?_
    refine GL.val (rv_move rfl) rfl ?_
    refine GL.val (rv_move rfl) rfl ?_
    refine GL.val (rv_move rfl) rfl ?_
    refine GL.val (rv_move rfl) rfl ?_
    refine GL.step (ot_buildSlice ei_48 rfl rfl rfl rfl rfl rfl fun b29 => ?_)
    refine GL.step (ot_call hb_33 rfl (callOk fun w hh => join_b (some ⟨b29, 0, none⟩) 3 3 [(a, (A2, c2)), (b, (A3, c3)), (d, (A4, c4))] (a ++ (b ++ d)) (by simp [cat]) w (slr_cl hh (k := 0) rfl rfl) (al (hh.rd0n hR2) (al (hh.rd0n hR3) (al (hh.rd0n hR4) an))) rfl (by decide) (by simp only [List.length_append]; omega)) rfl fun g30 _ => ?_)
    refine GL.step (ot_call hb_32 rfl (callOk fun w hh => rmac_c A1 _ c1 key g30.1 _ g30.2 (a ++ (b ++ d)) w (hh.rd0n hR1) rfl hc1 (by omega) (hh.ro (k := 0) rfl) rfl (by simp only [List.length_append]; omega)) rfl fun _ _ => ?_)
    refine GL.step (ot_alloc (zs := ws8 (List.replicate 32 0)) zb_24 (rfl) rfl fun b9 => ?_)
    refine GL.step (ot_storeA (k := 0) rfl rfl rfl rfl (by exact sz_24) (by first | (first | (simp only [ws8_len, List.length_replicate, mac_len]; done)) | rfl) (by first | (first | (simp only [ws8_len, List.length_replicate, mac_len]; done)) | rfl) (by first | exact ws8_one _ | rfl) ?_)
    refine GL.nil ?_
    refine GX.then ?_
    refine GC.seq ?_
    refine GC.draw 29 [0, 1, 2] mo_ ?_
    refine GD.pure (i := 0) rfl (fun _ _ => rv_move rfl) (by kernel_rfl) (by repeat (first | exact noPanicPut_body | exact noPanicPut_cut | exact noPanicPut_cutE | refine noPanicPut_then ?_ | refine noPanicPut_blk ?_)) ?_
    refine GD.pure (i := 1) rfl (fun _ _ => rv_move rfl) (by kernel_rfl) (by repeat (first | exact noPanicPut_body | exact noPanicPut_cut | exact noPanicPut_cutE | refine noPanicPut_then ?_ | refine noPanicPut_blk ?_)) ?_
    refine GD.pure (i := 2) rfl (fun _ _ => rv_move rfl) (by kernel_rfl) (by repeat (first | exact noPanicPut_body | exact noPanicPut_cut | exact noPanicPut_cutE | refine noPanicPut_then ?_ | refine noPanicPut_blk ?_)) ?_
    refine GD.pure (i := 3) rfl (fun _ _ => rv_move rfl) (by kernel_rfl) (by repeat (first | exact noPanicPut_body | exact noPanicPut_cut | exact noPanicPut_cutE | refine noPanicPut_then ?_ | refine noPanicPut_blk ?_)) ?_
    refine GD.read (i := 6) rfl (rv_loadAL ag_24 rfl (Hd.cellsAll (k := 0) rfl) (by exact sz_24) (by first | (first | (simp only [ws8_len, List.length_replicate, mac_len]; done)) | rfl)) (by kernel_rfl) (by repeat (first | exact noPanicPut_body | exact noPanicPut_cut | exact noPanicPut_cutE | refine noPanicPut_then ?_ | refine noPanicPut_blk ?_)) ?_
    refine GD.step (i := 4) (by kernel_rfl) rfl (ot_buildSlice ei_48 rfl rfl rfl rfl rfl rfl fun b36 => ⟨.inr fun _ h => h.pk [1, 2, 3], ?_⟩)
    refine GD.step (i := 5) (by kernel_rfl) rfl (ot_call hb_31 rfl (callOk fun w hh => mac_b A1 _ c1 key (some ⟨b36, 0, none⟩) 3 3 [(a, (A2, c2)), (b, (A3, c3)), (d, (A4, c4))] (a ++ (b ++ d)) (by simp [cat]) w (hh.rd0n hR1) rfl hc1 (by omega) (slr_cl hh (k := 0) rfl rfl) (al (hh.rd0n hR2) (al (hh.rd0n hR3) (al (hh.rd0n hR4) an))) (al (hc2) (al (hc3) (al (hc4) an))) rfl (by decide) (by first | decide | omega | (simp only [List.length_append]; omega) | (simp only [List.length_append, List.length_nil]; omega))) rfl fun _ _ => ⟨.inr fun _ h => h.pk [1, 2, 3], ?_⟩)
    refine GD.pure (i := 7) rfl (fun _ _ => rv_to (v' := .bool true) (rv_eq24 rfl rfl (mac_len _ _) (mac_len _ _)) (by simp)) (by kernel_rfl) (by repeat (first | exact noPanicPut_body | exact noPanicPut_cut | exact noPanicPut_cutE | refine noPanicPut_then ?_ | refine noPanicPut_blk ?_)) ?_
    refine GD.pure (i := 8) rfl (fun _ _ => rv_move rfl) (by kernel_rfl) (by repeat (first | exact noPanicPut_body | exact noPanicPut_cut | exact noPanicPut_cutE | refine noPanicPut_then ?_ | refine noPanicPut_blk ?_)) ?_
    first | refine GD.skipG (i := 9) rfl rfl (by kernel_rfl) (by repeat (first | exact noPanicPut_body | exact noPanicPut_cut | exact noPanicPut_cutE | refine noPanicPut_then ?_ | refine noPanicPut_blk ?_)) ?_ | refine GD.pureG (i := 9) rfl rfl (fun _ _ => rv_move rfl) (by kernel_rfl) (by repeat (first | exact noPanicPut_body | exact noPanicPut_cut | exact noPanicPut_cutE | refine noPanicPut_then ?_ | refine noPanicPut_blk ?_)) ?_
    first | refine GD.skipG (i := 10) rfl rfl (by kernel_rfl) (by repeat (first | exact noPanicPut_body | exact noPanicPut_cut | exact noPanicPut_cutE | refine noPanicPut_then ?_ | refine noPanicPut_blk ?_)) ?_ | refine GD.pureG (i := 10) rfl rfl (fun _ _ => rv_move rfl) (by kernel_rfl) (by repeat (first | exact noPanicPut_body | exact noPanicPut_cut | exact noPanicPut_cutE | refine noPanicPut_then ?_ | refine noPanicPut_blk ?_)) ?_
    first | refine GD.skipG (i := 11) rfl rfl (by kernel_rfl) (by repeat (first | exact noPanicPut_body | exact noPanicPut_cut | exact noPanicPut_cutE | refine noPanicPut_then ?_ | refine noPanicPut_blk ?_)) ?_ | refine GD.pureG (i := 11) rfl rfl (fun _ _ => rv_move rfl) (by kernel_rfl) (by repeat (first | exact noPanicPut_body | exact noPanicPut_cut | exact noPanicPut_cutE | refine noPanicPut_then ?_ | refine noPanicPut_blk ?_)) ?_
    first | refine GD.skipG (i := 12) rfl rfl (by kernel_rfl) (by repeat (first | exact noPanicPut_body | exact noPanicPut_cut | exact noPanicPut_cutE | refine noPanicPut_then ?_ | refine noPanicPut_blk ?_)) ?_ | refine GD.pureG (i := 12) rfl rfl (fun _ _ => rv_move rfl) (by kernel_rfl) (by repeat (first | exact noPanicPut_body | exact noPanicPut_cut | exact noPanicPut_cutE | refine noPanicPut_then ?_ | refine noPanicPut_blk ?_)) ?_
    first | refine GD.skipG (i := 15) rfl rfl (by kernel_rfl) (by repeat (first | exact noPanicPut_body | exact noPanicPut_cut | exact noPanicPut_cutE | refine noPanicPut_then ?_ | refine noPanicPut_blk ?_)) ?_ | refine GD.readG (i := 15) rfl rfl (rv_loadAL ag_24 rfl (Hd.cellsAll (k := 0) rfl) (by exact sz_24) (by first | (first | (simp only [ws8_len, List.length_replicate, mac_len]; done)) | rfl)) (by kernel_rfl) (by repeat (first | exact noPanicPut_body | exact noPanicPut_cut | exact noPanicPut_cutE | refine noPanicPut_then ?_ | refine noPanicPut_blk ?_)) ?_
    first | refine GD.skipG (i := 13) rfl rfl (by kernel_rfl) (by repeat (first | exact noPanicPut_body | exact noPanicPut_cut | exact noPanicPut_cutE | refine noPanicPut_then ?_ | refine noPanicPut_blk ?_)) ?_ | refine GD.stepG (i := 13) (by kernel_rfl) rfl rfl (ot_buildSlice ei_48 rfl rfl rfl rfl rfl rfl fun b45 => ⟨.inr fun _ h => h.pk [2, 3, 4], ?_⟩)
    first | refine GD.skipG (i := 14) rfl rfl (by kernel_rfl) (by repeat (first | exact noPanicPut_body | exact noPanicPut_cut | exact noPanicPut_cutE | refine noPanicPut_then ?_ | refine noPanicPut_blk ?_)) ?_ | refine GD.stepG (i := 14) (by kernel_rfl) rfl rfl (ot_call hb_31 rfl (callOk fun w hh => mac_b A1 _ c1 key (some ⟨b45, 0, none⟩) 4 4 [(a, (A2, c2)), ([], (none, 0)), (b, (A3, c3)), (d, (A4, c4))] (a ++ (b ++ d)) (by simp [cat]) w (hh.rd0n hR1) rfl hc1 (by omega) (slr_cl hh (k := 0) rfl rfl) (al (hh.rd0n hR2) (al (.inl rfl) (al (hh.rd0n hR3) (al (hh.rd0n hR4) an)))) (al (hc2) (al ((Nat.zero_le _)) (al (hc3) (al (hc4) an)))) rfl (by decide) (by first | decide | omega | (simp only [List.length_append]; omega) | (simp only [List.length_append, List.length_nil]; omega))) rfl fun _ _ => ⟨.inr fun _ h => h.pk [2, 3, 4], ?_⟩)
    first | refine GD.skipG (i := 16) rfl rfl (by kernel_rfl) (by repeat (first | exact noPanicPut_body | exact noPanicPut_cut | exact noPanicPut_cutE | refine noPanicPut_then ?_ | refine noPanicPut_blk ?_)) ?_ | refine GD.pureG (i := 16) rfl rfl (fun _ _ => rv_to (v' := .bool true) (rv_eq24 rfl rfl (mac_len _ _) (mac_len _ _)) (by simp)) (by kernel_rfl) (by repeat (first | exact noPanicPut_body | exact noPanicPut_cut | exact noPanicPut_cutE | refine noPanicPut_then ?_ | refine noPanicPut_blk ?_)) ?_
    refine GD.pure (i := 17) rfl (fun _ _ => (by first | exact rv_andT rfl rfl rfl | exact rv_andF rfl rfl rfl | exact rv_pickAnd rfl rfl rfl)) (by kernel_rfl) (by repeat (first | exact noPanicPut_body | exact noPanicPut_cut | exact noPanicPut_cutE | refine noPanicPut_then ?_ | refine noPanicPut_blk ?_)) ?_
    refine GD.pure (i := 18) rfl (fun _ _ => rv_move rfl) (by kernel_rfl) (by repeat (first | exact noPanicPut_body | exact noPanicPut_cut | exact noPanicPut_cutE | refine noPanicPut_then ?_ | refine noPanicPut_blk ?_)) ?_
    first | refine GD.skipG (i := 19) rfl rfl (by kernel_rfl) (by repeat (first | exact noPanicPut_body | exact noPanicPut_cut | exact noPanicPut_cutE | refine noPanicPut_then ?_ | refine noPanicPut_blk ?_)) ?_ | refine GD.pureG (i := 19) rfl rfl (fun _ _ => rv_move rfl) (by kernel_rfl) (by repeat (first | exact noPanicPut_body | exact noPanicPut_cut | exact noPanicPut_cutE | refine noPanicPut_then ?_ | refine noPanicPut_blk ?_)) ?_
    first | refine GD.skipG (i := 21) rfl rfl (by kernel_rfl) (by repeat (first | exact noPanicPut_body | exact noPanicPut_cut | exact noPanicPut_cutE | refine noPanicPut_then ?_ | refine noPanicPut_blk ?_)) ?_ | refine GD.pureG (i := 21) rfl rfl (fun _ _ => rv_move rfl) (by kernel_rfl) (by repeat (first | exact noPanicPut_body | exact noPanicPut_cut | exact noPanicPut_cutE | refine noPanicPut_then ?_ | refine noPanicPut_blk ?_)) ?_
    first | refine GD.skipG (i := 20) rfl rfl (by kernel_rfl) (by repeat (first | exact noPanicPut_body | exact noPanicPut_cut | exact noPanicPut_cutE | refine noPanicPut_then ?_ | refine noPanicPut_blk ?_)) ?_ | refine GD.stepG (i := 20) (by kernel_rfl) rfl rfl (ot_call hb_31 rfl (callOk fun w hh => mac_b A1 _ c1 key none 0 0 [] [] rfl w (hh.rd0n hR1) rfl hc1 (by omega) (.inl rfl) an an rfl (by decide) (by decide)) rfl fun _ _ => ⟨.inr fun _ h => h.pk [2, 3, 4], ?_⟩)
    first | refine GD.skipG (i := 22) rfl rfl (by kernel_rfl) (by repeat (first | exact noPanicPut_body | exact noPanicPut_cut | exact noPanicPut_cutE | refine noPanicPut_then ?_ | refine noPanicPut_blk ?_)) ?_ | refine GD.stepG (i := 22) (by kernel_rfl) rfl rfl (ot_call hb_32 rfl (callOk fun w hh => rmac_c A1 _ c1 key none 0 0 [] w (hh.rd0n hR1) rfl hc1 (by omega) (.inl rfl) rfl (by decide)) rfl fun _ _ => ⟨.inr fun _ h => h.pk [2, 3, 4], ?_⟩)
    first | refine GD.skipG (i := 23) rfl rfl (by kernel_rfl) (by repeat (first | exact noPanicPut_body | exact noPanicPut_cut | exact noPanicPut_cutE | refine noPanicPut_then ?_ | refine noPanicPut_blk ?_)) ?_ | refine GD.pureG (i := 23) rfl rfl (fun _ _ => rv_to (v' := .bool true) (rv_eq24 rfl rfl (mac_len _ _) (mac_len _ _)) (by simp)) (by kernel_rfl) (by repeat (first | exact noPanicPut_body | exact noPanicPut_cut | exact noPanicPut_cutE | refine noPanicPut_then ?_ | refine noPanicPut_blk ?_)) ?_
    refine GD.pure (i := 24) rfl (fun _ _ => (by first | exact rv_andT rfl rfl rfl | exact rv_andF rfl rfl rfl | exact rv_pickAnd rfl rfl rfl)) (by kernel_rfl) (by repeat (first | exact noPanicPut_body | exact noPanicPut_cut | exact noPanicPut_cutE | refine noPanicPut_then ?_ | refine noPanicPut_blk ?_)) ?_
    refine GD.pure (i := 25) rfl (fun _ _ => rv_move rfl) (by kernel_rfl) (by repeat (first | exact noPanicPut_body | exact noPanicPut_cut | exact noPanicPut_cutE | refine noPanicPut_then ?_ | refine noPanicPut_blk ?_)) ?_
    first | refine GD.skipG (i := 26) rfl rfl (by kernel_rfl) (by repeat (first | exact noPanicPut_body | exact noPanicPut_cut | exact noPanicPut_cutE | refine noPanicPut_then ?_ | refine noPanicPut_blk ?_)) ?_ | refine GD.stepG (i := 26) (by kernel_rfl) rfl rfl (ot_call hb_30 rfl (callOk fun w hh => works2_c w) rfl fun _ _ => ⟨.inr fun _ h => h.pk [2, 3, 4], ?_⟩)
    refine GD.pure (i := 27) rfl (fun _ _ => (by first | exact rv_andT rfl rfl rfl | exact rv_andF rfl rfl rfl | exact rv_pickAnd rfl rfl rfl)) (by kernel_rfl) (by repeat (first | exact noPanicPut_body | exact noPanicPut_cut | exact noPanicPut_cutE | refine noPanicPut_then ?_ | refine noPanicPut_blk ?_)) ?_
    refine GD.pure (i := 28) rfl (fun _ _ => rv_assign rfl) (by kernel_rfl) (by repeat (first | exact noPanicPut_body | exact noPanicPut_cut | exact noPanicPut_cutE | refine noPanicPut_then ?_ | refine noPanicPut_blk ?_)) ?_
    refine GD.done (by kernel_rfl) ?_
    refine GX.then ?_
    refine GC.ret ?_
    refine GX.ret1 rfl (RR.tmp rfl) ?_
    exact fun w9 h => ⟨(), rfl, by
        have h := h.sel [] rfl rfl
        exact h, trivial⟩
set_option maxRecDepth 100000 in
set_option maxHeartbeats 1000000 in
theorem same_law (A1 : Option Addr) (n1 c1 : Nat) (a : Sh.B) (A2 : Option Addr) (n2 c2 : Nat) (b : Sh.B) (w : World) (hR1 : SlR w A1 (byts a)) (hl1 : a.length = n1) (hc1 : n1 ≤ c1) (hR2 : SlR w A2 (byts b)) (hl2 : b.length = n2) (hc2 : n2 ≤ c2) (hn1 : n1 < 4611686018427387904) (hn2 : n2 < 4611686018427387904) : Calls Try.prog 9 [.slice A1 n1 c1, .slice A2 n2 c2].toArray w fun e w' => ∃ _g : Unit, e = .returned (.bool true) ∧ St noB w w' [] ∧ True := by
  refine GC.calls Try.func9 rfl rfl (St.begin _) ?_
  refine GC.seq ?_
  refine GC.reg ?_
  refine GL.val (rv_assign rfl) rfl ?_
  refine GL.nil ?_
  refine GX.then ?_
  refine GC.seq ?_
  refine GC.reg ?_
  refine GL.val (rv_move rfl) rfl ?_
  refine GL.val (rv_move rfl) rfl ?_
  refine GL.step (ot_call hb_34 rfl (callOk fun w hh => same_c A1 A2 c1 c2 _ _ a b w (hh.rd0n hR1) (hh.rd0n hR2) hl1 hl2 hn1 hn2) rfl fun _ _ => ?_)
  refine GL.val (rv_move rfl) rfl ?_
  refine GL.val (rv_move rfl) rfl ?_
  refine GL.step (ot_call hb_13 rfl (callOk fun w hh => sameb_c A1 A2 c1 c2 _ _ a b w (hh.rd0n hR1) (hh.rd0n hR2) hl1 hl2) rfl fun _ _ => ?_)
  refine GL.val (rv_to (v' := .bool true) (rv_eqB rfl rfl (run_eqBool Try.underlying4)) (by simp)) rfl ?_
  refine GL.val (rv_move rfl) rfl ?_
  first | refine GL.skipG rfl rfl ?_ | refine GL.skipU rfl rfl ?_ | refine GL.valT rfl (rv_move rfl) rfl ?_ | refine GL.valG rfl (fun hb => rv_move (by first | exact evb rfl hb | rfl)) rfl ?_
  first | refine GL.skipG rfl rfl ?_ | refine GL.skipU rfl rfl ?_ | refine GL.valT rfl (rv_move rfl) rfl ?_ | refine GL.valG rfl (fun hb => rv_move (by first | exact evb rfl hb | rfl)) rfl ?_
  first | refine GL.skipG rfl rfl ?_ | refine GL.skipU rfl rfl ?_ | refine GL.stepG rfl (ot_call hb_34 rfl (callOk fun w hh => same_b (decide (a = b)) A2 A1 c2 c1 _ _ b a w (hh.rd0n hR2) (hh.rd0n hR1) hl2 hl1 hn2 hn1 (decide_eq_decide.2 eq_comm)) rfl fun _ _ => ?_)
  first | refine GL.skipG rfl rfl ?_ | refine GL.skipU rfl rfl ?_ | refine GL.valT rfl (rv_move rfl) rfl ?_ | refine GL.valG rfl (fun hb => rv_move (by first | exact evb rfl hb | rfl)) rfl ?_
  first | refine GL.skipG rfl rfl ?_ | refine GL.skipU rfl rfl ?_ | refine GL.valT rfl (rv_move rfl) rfl ?_ | refine GL.valG rfl (fun hb => rv_move (by first | exact evb rfl hb | rfl)) rfl ?_
  first | refine GL.skipG rfl rfl ?_ | refine GL.skipU rfl rfl ?_ | refine GL.stepG rfl (ot_call hb_34 rfl (callOk fun w hh => same_c A1 A2 c1 c2 _ _ a b w (hh.rd0n hR1) (hh.rd0n hR2) hl1 hl2 hn1 hn2) rfl fun _ _ => ?_)
  first | refine GL.skipG rfl rfl ?_ | refine GL.skipU rfl rfl ?_ | refine GL.valT rfl (rv_to (v' := .bool true) (rv_eqB rfl rfl (run_eqBool Try.underlying4)) (by simp)) rfl ?_ | refine GL.valG rfl (fun hb => rv_to (v' := .bool true) (rv_eqB (by first | exact evb rfl hb | rfl) (by first | exact evb rfl hb | rfl) (run_eqBool Try.underlying4)) (by simp)) rfl ?_
  refine GL.val ((by first | exact rv_andT rfl rfl rfl | exact rv_andF rfl rfl rfl | exact rv_pickAnd rfl rfl rfl)) rfl ?_
  refine GL.val (rv_move rfl) rfl ?_
  first | refine GL.skipG rfl rfl ?_ | refine GL.skipU rfl rfl ?_ | refine GL.valT rfl (rv_move rfl) rfl ?_ | refine GL.valG rfl (fun hb => rv_move (by first | exact evb rfl hb | rfl)) rfl ?_
  first | refine GL.skipG rfl rfl ?_ | refine GL.skipU rfl rfl ?_ | refine GL.valT rfl (rv_move rfl) rfl ?_ | refine GL.valG rfl (fun hb => rv_move (by first | exact evb rfl hb | rfl)) rfl ?_
  first | refine GL.skipG rfl rfl ?_ | refine GL.skipU rfl rfl ?_ | refine GL.stepG rfl (ot_call hb_34 rfl (callOk fun w hh => same_b true A1 A1 c1 c1 _ _ a a w (hh.rd0n hR1) (hh.rd0n hR1) hl1 hl1 hn1 hn1 (decide_eq_true rfl)) rfl fun _ _ => ?_)
  refine GL.val ((by first | exact rv_andT rfl rfl rfl | exact rv_andF rfl rfl rfl | exact rv_pickAnd rfl rfl rfl)) rfl ?_
  refine GL.val (rv_move rfl) rfl ?_
  first | refine GL.skipG rfl rfl ?_ | refine GL.skipU rfl rfl ?_ | refine GL.stepG rfl (ot_call hb_30 rfl (callOk fun w hh => works2_c w) rfl fun _ _ => ?_)
  refine GL.val ((by first | exact rv_andT rfl rfl rfl | exact rv_andF rfl rfl rfl | exact rv_pickAnd rfl rfl rfl)) rfl ?_
  refine GL.val (rv_assign rfl) rfl ?_
  refine GL.nil ?_
  refine GX.then ?_
  refine GC.ret ?_
  refine GX.ret1 rfl (RR.tmp rfl) ?_
  exact fun w9 h => ⟨(), rfl, by
      exact h, trivial⟩
set_option maxRecDepth 100000 in
set_option maxHeartbeats 1000000 in
theorem keys_law (A1 : Option Addr) (n1 c1 : Nat) (key : Sh.B) (z : UInt8) (A2 : Option Addr) (n2 c2 : Nat) (b : Sh.B) (w : World) (hR1 : SlR w A1 (byts key)) (hl1 : key.length = n1) (hc1 : n1 ≤ c1) (hR2 : SlR w A2 (byts b)) (hl2 : b.length = n2) (hc2 : n2 ≤ c2) : Calls Try.prog 10 [.slice A1 n1 c1, v8 z, .slice A2 n2 c2].toArray w fun e w' => ∃ _g : Unit, e = .returned (.bool true) ∧ St noB w w' [] ∧ True := by
  refine GC.calls Try.func10 rfl rfl (St.begin _) ?_
  subst hl1 hl2
  have hz := UInt8.toNat_lt z
  refine GC.seq ?_
  refine GC.reg ?_
  refine GL.val (rv_assign rfl) rfl ?_
  refine GL.nil ?_
  refine GX.then ?_
  refine GC.seq ?_
  refine GC.seq ?_
  refine GC.cutq (γ := Unit) [2, 1, 0] [] (fun g Lk => (15, .bool (decide (32768 < key.length ∨ 32768 < b.length))) :: Lk) (fun g Fk => Fk) (fun g => True) rfl rfl ?_ (fun _ _ => ?_)
  · rcases (by omega : (32768 < key.length) ∨ (¬ 32768 < key.length ∧ 32768 < b.length) ∨ (¬ 32768 < key.length ∧ ¬ 32768 < b.length)) with h | h | h
    · have hb1 : decide (32768 < key.length) = true := decide_eq_true (by omega)
      have hb2 : decide (32768 < b.length) = decide (32768 < b.length) := rfl
      rw [show decide (32768 < key.length ∨ 32768 < b.length) = true from decide_eq_true (by omega)]
      refine GC.reg ?_
      refine GL.val (rv_move rfl) rfl ?_
      refine GL.step (ot_call hb_29 rfl (callOk fun w hh => long_b _ A1 _ c1 w hb1) rfl fun _ _ => ?_)
      refine GL.val (rv_move rfl) rfl ?_
      first | refine GL.skipG rfl rfl ?_ | refine GL.skipU rfl rfl ?_ | refine GL.valT rfl (rv_move rfl) rfl ?_ | refine GL.valG rfl (fun hb => rv_move (by first | exact evb rfl hb | rfl)) rfl ?_
      first | refine GL.skipG rfl rfl ?_ | refine GL.skipU rfl rfl ?_ | refine GL.stepG rfl (ot_call hb_29 rfl (callOk fun w hh => long_b _ A2 _ c2 w hb2) rfl fun _ _ => ?_)
      refine GL.val ((by first | exact rv_orF rfl rfl rfl | exact rv_orT rfl rfl rfl | exact rv_pickOr rfl rfl rfl)) rfl ?_
      refine GL.nil ?_
      exact GX.cutq () trivial (by repeat (first | exact Sub.nil | refine Sub.cons rfl ?_)) (fun w9 h => by
          exact h)
    · have hb1 : decide (32768 < key.length) = false := decide_eq_false (by omega)
      have hb2 : decide (32768 < b.length) = true := decide_eq_true (by omega)
      rw [show decide (32768 < key.length ∨ 32768 < b.length) = true from decide_eq_true (by omega)]
      refine GC.reg ?_
      refine GL.val (rv_move rfl) rfl ?_
      refine GL.step (ot_call hb_29 rfl (callOk fun w hh => long_b _ A1 _ c1 w hb1) rfl fun _ _ => ?_)
      refine GL.val (rv_move rfl) rfl ?_
      first | refine GL.skipG rfl rfl ?_ | refine GL.skipU rfl rfl ?_ | refine GL.valT rfl (rv_move rfl) rfl ?_ | refine GL.valG rfl (fun hb => rv_move (by first | exact evb rfl hb | rfl)) rfl ?_
      first | refine GL.skipG rfl rfl ?_ | refine GL.skipU rfl rfl ?_ | refine GL.stepG rfl (ot_call hb_29 rfl (callOk fun w hh => long_b _ A2 _ c2 w hb2) rfl fun _ _ => ?_)
      refine GL.val ((by first | exact rv_orF rfl rfl rfl | exact rv_orT rfl rfl rfl | exact rv_pickOr rfl rfl rfl)) rfl ?_
      refine GL.nil ?_
      exact GX.cutq () trivial (by repeat (first | exact Sub.nil | refine Sub.cons rfl ?_)) (fun w9 h => by
          exact h)
    · have hb1 : decide (32768 < key.length) = false := decide_eq_false (by omega)
      have hb2 : decide (32768 < b.length) = false := decide_eq_false (by omega)
      rw [show decide (32768 < key.length ∨ 32768 < b.length) = false from decide_eq_false (by omega)]
      refine GC.reg ?_
      refine GL.val (rv_move rfl) rfl ?_
      refine GL.step (ot_call hb_29 rfl (callOk fun w hh => long_b _ A1 _ c1 w hb1) rfl fun _ _ => ?_)
      refine GL.val (rv_move rfl) rfl ?_
      first | refine GL.skipG rfl rfl ?_ | refine GL.skipU rfl rfl ?_ | refine GL.valT rfl (rv_move rfl) rfl ?_ | refine GL.valG rfl (fun hb => rv_move (by first | exact evb rfl hb | rfl)) rfl ?_
      first | refine GL.skipG rfl rfl ?_ | refine GL.skipU rfl rfl ?_ | refine GL.stepG rfl (ot_call hb_29 rfl (callOk fun w hh => long_b _ A2 _ c2 w hb2) rfl fun _ _ => ?_)
      refine GL.val ((by first | exact rv_orF rfl rfl rfl | exact rv_orT rfl rfl rfl | exact rv_pickOr rfl rfl rfl)) rfl ?_
      refine GL.nil ?_
      exact GX.cutq () trivial (by repeat (first | exact Sub.nil | refine Sub.cons rfl ?_)) (fun w9 h => by
          exact h)
  refine GX.then ?_
  first | refine GC.condP rfl (fun c15 => ?_) (fun c15 => ?_) | refine GC.cond rfl (fun c15 => ?_) (fun c15 => ?_)
  · refine GC.seq ?_
    refine GC.reg ?_
    refine GL.step (ot_call hb_30 rfl (callOk fun w hh => works2_c w) rfl fun _ _ => ?_)
    refine GL.val (rv_assign rfl) rfl ?_
    refine GL.nil ?_
    refine GX.then ?_
    refine GC.ret ?_
    refine GX.then_ret ?_
    refine GX.ret1 rfl (RR.tmp rfl) ?_
    exact fun w9 h => ⟨(), rfl, by
        exact h, trivial⟩
  · have hf : ¬ (32768 < key.length ∨ 32768 < b.length) := by simpa using c15
    refine GC.skip ?_
    refine GX.then ?_
    refine GC.seq ?_
    refine GC.seq ?_
    refine GC.reg ?_
    refine GL.val (rv_move rfl) rfl ?_
    refine GL.val (rv_lenSl Try.underlying28 rfl) rfl ?_
    refine GL.val (rv_gtr rfl rfl) rfl ?_
    refine GL.nil ?_
    refine GX.then ?_
    first | refine GC.condP rfl (fun c19 => ?_) (fun c19 => ?_) | refine GC.cond rfl (fun c19 => ?_) (fun c19 => ?_)
    · have c19' : 64 < key.length := by omega
      refine GC.seq ?_
      refine GC.reg ?_
      refine GL.val (rv_move rfl) rfl ?_
      refine GL.step (ot_call hb_35 rfl (callOk fun w hh => rsum_c _ c1 A1 key w (hh.rd0n hR1) rfl (by omega)) rfl fun _ _ => ?_)
      have hs2 := mac_sum c19' b
      generalize hs1 : Sh.sum key = s1 at hs2 ⊢
      have hs1l : s1.length = 32 := by rw [← hs1]; exact Sh.sum_len _
      refine GL.step (ot_alloc (zs := ws8 (List.replicate 32 0)) zb_24 (rfl) rfl fun b7 => ?_)
      refine GL.step (ot_storeA (k := 0) rfl rfl rfl rfl (by exact sz_24) (by first | (first | (simp only [ws8_len, List.length_replicate, hs1l]; done) | (simp only [ws8_len, List.length_replicate, Sh.sum_len]; done)) | rfl) (by first | (first | (simp only [ws8_len, List.length_replicate, hs1l]; done) | (simp only [ws8_len, List.length_replicate, Sh.sum_len]; done)) | rfl) (by first | exact ws8_one _ | rfl) ?_)
      refine GL.nil ?_
      refine GX.then ?_
      refine GC.seq ?_
      refine GC.draw 13 [] mo_ ?_
      refine GD.pure (i := 0) rfl (fun _ _ => rv_move rfl) (by kernel_rfl) (by repeat (first | exact noPanicPut_body | exact noPanicPut_cut | exact noPanicPut_cutE | refine noPanicPut_then ?_ | refine noPanicPut_blk ?_)) ?_
      refine GD.pure (i := 1) rfl (fun _ _ => rv_move rfl) (by kernel_rfl) (by repeat (first | exact noPanicPut_body | exact noPanicPut_cut | exact noPanicPut_cutE | refine noPanicPut_then ?_ | refine noPanicPut_blk ?_)) ?_
      refine GD.pure (i := 4) rfl (fun _ _ => rv_to (v' := .slice (some ⟨b7, 0, none⟩) s1.length 32) (rv_slA (E := 5) as_24 rfl rfl rfl 0 32 0 rfl rfl (by decide) (by decide) (by decide) rfl) (by rw [hs1l])) (by kernel_rfl) (by repeat (first | exact noPanicPut_body | exact noPanicPut_cut | exact noPanicPut_cutE | refine noPanicPut_then ?_ | refine noPanicPut_blk ?_)) ?_
      refine GD.pure (i := 5) rfl (fun _ _ => rv_move rfl) (by kernel_rfl) (by repeat (first | exact noPanicPut_body | exact noPanicPut_cut | exact noPanicPut_cutE | refine noPanicPut_then ?_ | refine noPanicPut_blk ?_)) ?_
      refine GD.eachN2 (i := 2) (j := 6) (by kernel_rfl) rfl rfl ?_ ?_
      · refine ot_buildSlice ei_48 rfl rfl rfl rfl rfl rfl fun b24 => ⟨.inr fun _ h => h.pk [], ?_⟩
        refine GD.eachN2 (i := 3) (j := 6) (by kernel_rfl) rfl rfl ?_ ?_
        · refine ot_call hb_31 rfl (callOk fun w hh => mac_b A1 _ c1 key (some ⟨b24, 0, none⟩) 1 1 [(b, (A2, c2))] (b) (by simp [cat]) w (hh.rd0n hR1) rfl hc1 (by omega) (slr_cl hh (k := 0) rfl rfl) (al (hh.rd0n hR2) an) (al (hc2) an) rfl (by decide) (by first | decide | omega | (simp only [List.length_append]; omega) | (simp only [List.length_append, List.length_nil]; omega))) rfl fun _ _ => ⟨.inr fun _ h => h.pk [], ?_⟩
          refine GD.step (i := 6) (by kernel_rfl) rfl (ot_buildSlice ei_48 rfl rfl rfl rfl rfl rfl fun b28 => ⟨.inr fun _ h => h.pk [], ?_⟩)
          refine GD.step (i := 7) (by kernel_rfl) rfl (ot_call hb_31 rfl (callOk fun w hh => mac_b (some ⟨b7, 0, none⟩) _ 32 s1 (some ⟨b28, 0, none⟩) 1 1 [(b, (A2, c2))] (b) (by simp [cat]) w (.inr ⟨b7, 0, rfl, Hd.cellsAll (k := 2) rfl w hh⟩) rfl (by omega) (by omega) (slr_cl hh (k := 0) rfl rfl) (al (hh.rd0n hR2) an) (al (hc2) an) rfl (by decide) (by first | decide | omega | (simp only [List.length_append]; omega) | (simp only [List.length_append, List.length_nil]; omega))) rfl fun _ _ => ⟨.inr fun _ h => h.pk [], ?_⟩)
          refine GD.pure (i := 8) rfl (fun _ _ => rv_to (v' := .bool true) (rv_eq24 rfl rfl (mac_len _ _) (mac_len _ _)) (by rw [hs2]; simp)) (by kernel_rfl) (by repeat (first | exact noPanicPut_body | exact noPanicPut_cut | exact noPanicPut_cutE | refine noPanicPut_then ?_ | refine noPanicPut_blk ?_)) ?_
          refine GD.pure (i := 9) rfl (fun _ _ => rv_move rfl) (by kernel_rfl) (by repeat (first | exact noPanicPut_body | exact noPanicPut_cut | exact noPanicPut_cutE | refine noPanicPut_then ?_ | refine noPanicPut_blk ?_)) ?_
          first | refine GD.skipG (i := 10) rfl rfl (by kernel_rfl) (by repeat (first | exact noPanicPut_body | exact noPanicPut_cut | exact noPanicPut_cutE | refine noPanicPut_then ?_ | refine noPanicPut_blk ?_)) ?_ | refine GD.stepG (i := 10) (by kernel_rfl) rfl rfl (ot_call hb_30 rfl (callOk fun w hh => works2_c w) rfl fun _ _ => ⟨.inr fun _ h => h.pk [], ?_⟩)
          refine GD.pure (i := 11) rfl (fun _ _ => (by first | exact rv_andT rfl rfl rfl | exact rv_andF rfl rfl rfl | exact rv_pickAnd rfl rfl rfl)) (by kernel_rfl) (by repeat (first | exact noPanicPut_body | exact noPanicPut_cut | exact noPanicPut_cutE | refine noPanicPut_then ?_ | refine noPanicPut_blk ?_)) ?_
          refine GD.pure (i := 12) rfl (fun _ _ => rv_assign rfl) (by kernel_rfl) (by repeat (first | exact noPanicPut_body | exact noPanicPut_cut | exact noPanicPut_cutE | refine noPanicPut_then ?_ | refine noPanicPut_blk ?_)) ?_
          refine GD.done (by kernel_rfl) ?_
          refine GX.then ?_
          refine GC.ret ?_
          refine GX.then_ret ?_
          refine GX.ret1 rfl (RR.tmp rfl) ?_
          exact fun w9 h => ⟨(), rfl, by
              have h := h.sel [] rfl rfl
              exact h, trivial⟩
        · refine ot_buildSlice ei_48 rfl rfl rfl rfl rfl rfl fun b28 => ⟨.inr fun _ h => h.pk [], ?_⟩
          refine GD.step (i := 3) (by kernel_rfl) rfl (ot_call hb_31 rfl (callOk fun w hh => mac_b A1 _ c1 key (some ⟨b24, 0, none⟩) 1 1 [(b, (A2, c2))] (b) (by simp [cat]) w (hh.rd0n hR1) rfl hc1 (by omega) (slr_cl hh (k := 1) rfl rfl) (al (hh.rd0n hR2) an) (al (hc2) an) rfl (by decide) (by first | decide | omega | (simp only [List.length_append]; omega) | (simp only [List.length_append, List.length_nil]; omega))) rfl fun _ _ => ⟨.inr fun _ h => h.pk [], ?_⟩)
          refine GD.step (i := 7) (by kernel_rfl) rfl (ot_call hb_31 rfl (callOk fun w hh => mac_b (some ⟨b7, 0, none⟩) _ 32 s1 (some ⟨b28, 0, none⟩) 1 1 [(b, (A2, c2))] (b) (by simp [cat]) w (.inr ⟨b7, 0, rfl, Hd.cellsAll (k := 2) rfl w hh⟩) rfl (by omega) (by omega) (slr_cl hh (k := 0) rfl rfl) (al (hh.rd0n hR2) an) (al (hc2) an) rfl (by decide) (by first | decide | omega | (simp only [List.length_append]; omega) | (simp only [List.length_append, List.length_nil]; omega))) rfl fun _ _ => ⟨.inr fun _ h => h.pk [], ?_⟩)
          refine GD.pure (i := 8) rfl (fun _ _ => rv_to (v' := .bool true) (rv_eq24 rfl rfl (mac_len _ _) (mac_len _ _)) (by rw [hs2]; simp)) (by kernel_rfl) (by repeat (first | exact noPanicPut_body | exact noPanicPut_cut | exact noPanicPut_cutE | refine noPanicPut_then ?_ | refine noPanicPut_blk ?_)) ?_
          refine GD.pure (i := 9) rfl (fun _ _ => rv_move rfl) (by kernel_rfl) (by repeat (first | exact noPanicPut_body | exact noPanicPut_cut | exact noPanicPut_cutE | refine noPanicPut_then ?_ | refine noPanicPut_blk ?_)) ?_
          first | refine GD.skipG (i := 10) rfl rfl (by kernel_rfl) (by repeat (first | exact noPanicPut_body | exact noPanicPut_cut | exact noPanicPut_cutE | refine noPanicPut_then ?_ | refine noPanicPut_blk ?_)) ?_ | refine GD.stepG (i := 10) (by kernel_rfl) rfl rfl (ot_call hb_30 rfl (callOk fun w hh => works2_c w) rfl fun _ _ => ⟨.inr fun _ h => h.pk [], ?_⟩)
          refine GD.pure (i := 11) rfl (fun _ _ => (by first | exact rv_andT rfl rfl rfl | exact rv_andF rfl rfl rfl | exact rv_pickAnd rfl rfl rfl)) (by kernel_rfl) (by repeat (first | exact noPanicPut_body | exact noPanicPut_cut | exact noPanicPut_cutE | refine noPanicPut_then ?_ | refine noPanicPut_blk ?_)) ?_
          refine GD.pure (i := 12) rfl (fun _ _ => rv_assign rfl) (by kernel_rfl) (by repeat (first | exact noPanicPut_body | exact noPanicPut_cut | exact noPanicPut_cutE | refine noPanicPut_then ?_ | refine noPanicPut_blk ?_)) ?_
          refine GD.done (by kernel_rfl) ?_
          refine GX.then ?_
          refine GC.ret ?_
          refine GX.then_ret ?_
          refine GX.ret1 rfl (RR.tmp rfl) ?_
          exact fun w9 h => ⟨(), rfl, by
              have h := h.sel [] rfl rfl
              exact h, trivial⟩
      · refine ot_buildSlice ei_48 rfl rfl rfl rfl rfl rfl fun b28 => ⟨.inr fun _ h => h.pk [], ?_⟩
        refine GD.step (i := 2) (by kernel_rfl) rfl (ot_buildSlice ei_48 rfl rfl rfl rfl rfl rfl fun b24 => ⟨.inr fun _ h => h.pk [], ?_⟩)
        refine GD.step (i := 3) (by kernel_rfl) rfl (ot_call hb_31 rfl (callOk fun w hh => mac_b A1 _ c1 key (some ⟨b24, 0, none⟩) 1 1 [(b, (A2, c2))] (b) (by simp [cat]) w (hh.rd0n hR1) rfl hc1 (by omega) (slr_cl hh (k := 0) rfl rfl) (al (hh.rd0n hR2) an) (al (hc2) an) rfl (by decide) (by first | decide | omega | (simp only [List.length_append]; omega) | (simp only [List.length_append, List.length_nil]; omega))) rfl fun _ _ => ⟨.inr fun _ h => h.pk [], ?_⟩)
        refine GD.step (i := 7) (by kernel_rfl) rfl (ot_call hb_31 rfl (callOk fun w hh => mac_b (some ⟨b7, 0, none⟩) _ 32 s1 (some ⟨b28, 0, none⟩) 1 1 [(b, (A2, c2))] (b) (by simp [cat]) w (.inr ⟨b7, 0, rfl, Hd.cellsAll (k := 2) rfl w hh⟩) rfl (by omega) (by omega) (slr_cl hh (k := 1) rfl rfl) (al (hh.rd0n hR2) an) (al (hc2) an) rfl (by decide) (by first | decide | omega | (simp only [List.length_append]; omega) | (simp only [List.length_append, List.length_nil]; omega))) rfl fun _ _ => ⟨.inr fun _ h => h.pk [], ?_⟩)
        refine GD.pure (i := 8) rfl (fun _ _ => rv_to (v' := .bool true) (rv_eq24 rfl rfl (mac_len _ _) (mac_len _ _)) (by rw [hs2]; simp)) (by kernel_rfl) (by repeat (first | exact noPanicPut_body | exact noPanicPut_cut | exact noPanicPut_cutE | refine noPanicPut_then ?_ | refine noPanicPut_blk ?_)) ?_
        refine GD.pure (i := 9) rfl (fun _ _ => rv_move rfl) (by kernel_rfl) (by repeat (first | exact noPanicPut_body | exact noPanicPut_cut | exact noPanicPut_cutE | refine noPanicPut_then ?_ | refine noPanicPut_blk ?_)) ?_
        first | refine GD.skipG (i := 10) rfl rfl (by kernel_rfl) (by repeat (first | exact noPanicPut_body | exact noPanicPut_cut | exact noPanicPut_cutE | refine noPanicPut_then ?_ | refine noPanicPut_blk ?_)) ?_ | refine GD.stepG (i := 10) (by kernel_rfl) rfl rfl (ot_call hb_30 rfl (callOk fun w hh => works2_c w) rfl fun _ _ => ⟨.inr fun _ h => h.pk [], ?_⟩)
        refine GD.pure (i := 11) rfl (fun _ _ => (by first | exact rv_andT rfl rfl rfl | exact rv_andF rfl rfl rfl | exact rv_pickAnd rfl rfl rfl)) (by kernel_rfl) (by repeat (first | exact noPanicPut_body | exact noPanicPut_cut | exact noPanicPut_cutE | refine noPanicPut_then ?_ | refine noPanicPut_blk ?_)) ?_
        refine GD.pure (i := 12) rfl (fun _ _ => rv_assign rfl) (by kernel_rfl) (by repeat (first | exact noPanicPut_body | exact noPanicPut_cut | exact noPanicPut_cutE | refine noPanicPut_then ?_ | refine noPanicPut_blk ?_)) ?_
        refine GD.done (by kernel_rfl) ?_
        refine GX.then ?_
        refine GC.ret ?_
        refine GX.then_ret ?_
        refine GX.ret1 rfl (RR.tmp rfl) ?_
        exact fun w9 h => ⟨(), rfl, by
            have h := h.sel [] rfl rfl
            exact h, trivial⟩
    · have c19' : key.length ≤ 64 := by omega
      refine GC.skip ?_
      refine GX.then ?_
      refine GC.seq ?_
      refine GC.reg ?_
      refine GL.val (rv_move rfl) rfl ?_
      refine GL.val (rv_lenSl Try.underlying28 rfl) rfl ?_
      refine GL.val (rv_move rfl) rfl ?_
      refine GL.val (rv_c8N Try.underlying5 Try.underlying3 rfl) rfl ?_
      refine GL.val (rv_add rfl rfl (by omega) (by omega)) rfl ?_
      refine GL.val (rv_assign rfl) rfl ?_
      refine GL.nil ?_
      refine GX.then ?_
      refine GC.seq ?_
      refine GC.seq ?_
      refine GC.reg ?_
      refine GL.val (rv_move rfl) rfl ?_
      refine GL.val (rv_gtr rfl rfl) rfl ?_
      refine GL.nil ?_
      refine GX.then ?_
      refine GC.cutq (γ := Nat) [2, 0] [] (fun g Lk => (8, .int .i64 (g : Int)) :: Lk) (fun g Fk => Fk) (fun g => key.length ≤ g ∧ g ≤ 64) rfl rfl ?_ (fun m hm => ?_)
      · first | refine GC.condP rfl (fun c40 => ?_) (fun c40 => ?_) | refine GC.cond rfl (fun c40 => ?_) (fun c40 => ?_)
        · skip
          refine GC.reg ?_
          refine GL.val (rv_assign rfl) rfl ?_
          refine GL.nil ?_
          exact GX.cutq (64) ⟨by omega, by omega⟩ (by repeat (first | exact Sub.nil | refine Sub.cons rfl ?_)) (fun w9 h => by
              exact h)
        · skip
          refine GC.skip ?_
          exact GX.cutq (key.length + z.toNat) ⟨by omega, by omega⟩ (by repeat (first | exact Sub.nil | refine Sub.cons rfl ?_)) (fun w9 h => by
              exact h)
      refine GX.then ?_
      refine GC.seq ?_
      refine GC.reg ?_
      refine GL.val (rv_move rfl) rfl ?_
      refine GL.step (ot_makeC (m := m) (zs := byts (List.replicate m 0)) ei_28 zb_5 rfl rfl rfl (by omega) (by omega) (by simp [byts, ws8]) rfl fun b42 => ?_)
      refine GL.val (rv_assign rfl) rfl ?_
      refine GL.nil ?_
      refine GX.then ?_
      refine GC.seq ?_
      refine GC.reg ?_
      refine GL.val (rv_move rfl) rfl ?_
      refine GL.val (rv_move rfl) rfl ?_
      refine GL.step (ot_copy (k := 0) (m := key.length) (us := byts key) (cs' := ws8 (key ++ List.replicate (m - key.length) 0)) ei_28 rfl rfl (by omega) rfl (fun w h => h.rd0n hR1) (by rw [byts_len, Nat.mul_one]) (byts_one _) (by rw [byts_len, byts_len, List.length_replicate]; omega) (cp_pad (by omega)) rfl ?_)
      refine GL.nil ?_
      refine GX.then ?_
      refine GC.seq ?_
      refine GC.reg ?_
      refine GL.val (rv_move rfl) rfl ?_
      refine GL.val (rv_move rfl) rfl ?_
      refine GL.step (ot_buildSlice ei_48 rfl rfl rfl rfl rfl rfl fun b48 => ?_)
      refine GL.step (ot_call hb_31 rfl (callOk fun w hh => mac_b A1 _ c1 key (some ⟨b48, 0, none⟩) 1 1 [(b, (A2, c2))] (b) (by simp [cat]) w (hh.rd0n hR1) rfl hc1 (by omega) (slr_cl hh (k := 0) rfl rfl) (al (hh.rd0n hR2) an) (al (hc2) an) rfl (by decide) (by first | decide | omega | (simp only [List.length_append]; omega) | (simp only [List.length_append, List.length_nil]; omega))) rfl fun _ _ => ?_)
      refine GL.val (rv_move rfl) rfl ?_
      refine GL.val (rv_move rfl) rfl ?_
      refine GL.step (ot_buildSlice ei_48 rfl rfl rfl rfl rfl rfl fun b52 => ?_)
      refine GL.step (ot_call hb_31 rfl (callOk fun w hh => mac_b (some ⟨b42, 0, none⟩) m m (key ++ List.replicate (m - key.length) 0) (some ⟨b52, 0, none⟩) 1 1 [(b, (A2, c2))] (b) (by simp [cat]) w (.inr ⟨b42, 0, rfl, Hd.cellsAll (k := 2) rfl w hh⟩) (by simp; omega) (Nat.le_refl _) (by omega) (slr_cl hh (k := 0) rfl rfl) (al (hh.rd0n hR2) an) (al (hc2) an) rfl (by decide) (by first | decide | omega | (simp only [List.length_append]; omega) | (simp only [List.length_append, List.length_nil]; omega))) rfl fun _ _ => ?_)
      refine GL.val (rv_to (v' := .bool true) (rv_eq24 rfl rfl (mac_len _ _) (mac_len _ _)) (by rw [mac_pad (by omega)]; simp)) rfl ?_
      refine GL.val (rv_move rfl) rfl ?_
      first | refine GL.skipG rfl rfl ?_ | refine GL.skipU rfl rfl ?_ | refine GL.stepG rfl (ot_call hb_30 rfl (callOk fun w hh => works2_c w) rfl fun _ _ => ?_)
      refine GL.val ((by first | exact rv_andT rfl rfl rfl | exact rv_andF rfl rfl rfl | exact rv_pickAnd rfl rfl rfl)) rfl ?_
      refine GL.val (rv_assign rfl) rfl ?_
      refine GL.nil ?_
      refine GX.then ?_
      refine GC.ret ?_
      refine GX.ret1 rfl (RR.tmp rfl) ?_
      exact fun w9 h => ⟨(), rfl, by
          have h := h.sel [] rfl rfl
          exact h, trivial⟩
set_option maxRecDepth 100000 in
set_option maxHeartbeats 1000000 in
theorem checks_law (A1 : Option Addr) (n1 c1 : Nat) (key : Sh.B) (x : Sh.B) (hx : x.length = 32) (A2 : Option Addr) (n2 c2 : Nat) (a : Sh.B) (A3 : Option Addr) (n3 c3 : Nat) (b : Sh.B) (w : World) (hR1 : SlR w A1 (byts key)) (hl1 : key.length = n1) (hc1 : n1 ≤ c1) (hR2 : SlR w A2 (byts a)) (hl2 : a.length = n2) (hc2 : n2 ≤ c2) (hR3 : SlR w A3 (byts b)) (hl3 : b.length = n3) (hc3 : n3 ≤ c3) : Calls Try.prog 11 [.slice A1 n1 c1, .agg (ws8 x).toArray, .slice A2 n2 c2, .slice A3 n3 c3].toArray w fun e w' => ∃ _g : Unit, e = .returned (.bool true) ∧ St noB w w' [] ∧ True := by
  refine GC.calls Try.func11 rfl rfl (St.begin _) ?_
  subst hl1 hl2 hl3
  refine GC.seq ?_
  refine GC.reg ?_
  refine GL.step (ot_box rfl rfl rfl fun b5 => ?_)
  refine GL.val (rv_assign rfl) rfl ?_
  refine GL.nil ?_
  refine GX.then ?_
  refine GC.seq ?_
  refine GC.seq ?_
  refine GC.cutq (γ := Unit) [5, 3, 2, 0] [0] (fun g Lk => (19, .bool (decide (32768 < key.length ∨ 32768 < a.length ∨ 32768 < b.length))) :: Lk) (fun g Fk => Fk) (fun g => True) rfl rfl ?_ (fun _ _ => ?_)
  · rcases (by omega : (32768 < key.length) ∨ (¬ 32768 < key.length ∧ 32768 < a.length) ∨ (¬ 32768 < key.length ∧ ¬ 32768 < a.length ∧ 32768 < b.length) ∨ (¬ 32768 < key.length ∧ ¬ 32768 < a.length ∧ ¬ 32768 < b.length)) with h | h | h | h
    · have hb1 : decide (32768 < key.length) = true := decide_eq_true (by omega)
      have hb2 : decide (32768 < a.length) = decide (32768 < a.length) := rfl
      have hb3 : decide (32768 < b.length) = decide (32768 < b.length) := rfl
      rw [show decide (32768 < key.length ∨ 32768 < a.length ∨ 32768 < b.length) = true from decide_eq_true (by omega)]
      refine GC.reg ?_
      refine GL.val (rv_move rfl) rfl ?_
      refine GL.step (ot_call hb_29 rfl (callOk fun w hh => long_b _ A1 _ c1 w hb1) rfl fun _ _ => ?_)
      refine GL.val (rv_move rfl) rfl ?_
      first | refine GL.skipG rfl rfl ?_ | refine GL.skipU rfl rfl ?_ | refine GL.valT rfl (rv_move rfl) rfl ?_ | refine GL.valG rfl (fun hb => rv_move (by first | exact evb rfl hb | rfl)) rfl ?_
      first | refine GL.skipG rfl rfl ?_ | refine GL.skipU rfl rfl ?_ | refine GL.stepG rfl (ot_call hb_29 rfl (callOk fun w hh => long_b _ A2 _ c2 w hb2) rfl fun _ _ => ?_)
      refine GL.val ((by first | exact rv_orF rfl rfl rfl | exact rv_orT rfl rfl rfl | exact rv_pickOr rfl rfl rfl)) rfl ?_
      refine GL.val (rv_move rfl) rfl ?_
      first | refine GL.skipG rfl rfl ?_ | refine GL.skipU rfl rfl ?_ | refine GL.valT rfl (rv_move rfl) rfl ?_ | refine GL.valG rfl (fun hb => rv_move (by first | exact evb rfl hb | rfl)) rfl ?_
      first | refine GL.skipG rfl rfl ?_ | refine GL.skipU rfl rfl ?_ | refine GL.stepG rfl (ot_call hb_29 rfl (callOk fun w hh => long_b _ A3 _ c3 w hb3) rfl fun _ _ => ?_)
      refine GL.val ((by first | exact rv_orF rfl rfl rfl | exact rv_orT rfl rfl rfl | exact rv_pickOr rfl rfl rfl)) rfl ?_
      refine GL.nil ?_
      exact GX.cutq () trivial (by repeat (first | exact Sub.nil | refine Sub.cons rfl ?_)) (fun w9 h => by
          exact h)
    · have hb1 : decide (32768 < key.length) = false := decide_eq_false (by omega)
      have hb2 : decide (32768 < a.length) = true := decide_eq_true (by omega)
      have hb3 : decide (32768 < b.length) = decide (32768 < b.length) := rfl
      rw [show decide (32768 < key.length ∨ 32768 < a.length ∨ 32768 < b.length) = true from decide_eq_true (by omega)]
      refine GC.reg ?_
      refine GL.val (rv_move rfl) rfl ?_
      refine GL.step (ot_call hb_29 rfl (callOk fun w hh => long_b _ A1 _ c1 w hb1) rfl fun _ _ => ?_)
      refine GL.val (rv_move rfl) rfl ?_
      first | refine GL.skipG rfl rfl ?_ | refine GL.skipU rfl rfl ?_ | refine GL.valT rfl (rv_move rfl) rfl ?_ | refine GL.valG rfl (fun hb => rv_move (by first | exact evb rfl hb | rfl)) rfl ?_
      first | refine GL.skipG rfl rfl ?_ | refine GL.skipU rfl rfl ?_ | refine GL.stepG rfl (ot_call hb_29 rfl (callOk fun w hh => long_b _ A2 _ c2 w hb2) rfl fun _ _ => ?_)
      refine GL.val ((by first | exact rv_orF rfl rfl rfl | exact rv_orT rfl rfl rfl | exact rv_pickOr rfl rfl rfl)) rfl ?_
      refine GL.val (rv_move rfl) rfl ?_
      first | refine GL.skipG rfl rfl ?_ | refine GL.skipU rfl rfl ?_ | refine GL.valT rfl (rv_move rfl) rfl ?_ | refine GL.valG rfl (fun hb => rv_move (by first | exact evb rfl hb | rfl)) rfl ?_
      first | refine GL.skipG rfl rfl ?_ | refine GL.skipU rfl rfl ?_ | refine GL.stepG rfl (ot_call hb_29 rfl (callOk fun w hh => long_b _ A3 _ c3 w hb3) rfl fun _ _ => ?_)
      refine GL.val ((by first | exact rv_orF rfl rfl rfl | exact rv_orT rfl rfl rfl | exact rv_pickOr rfl rfl rfl)) rfl ?_
      refine GL.nil ?_
      exact GX.cutq () trivial (by repeat (first | exact Sub.nil | refine Sub.cons rfl ?_)) (fun w9 h => by
          exact h)
    · have hb1 : decide (32768 < key.length) = false := decide_eq_false (by omega)
      have hb2 : decide (32768 < a.length) = false := decide_eq_false (by omega)
      have hb3 : decide (32768 < b.length) = true := decide_eq_true (by omega)
      rw [show decide (32768 < key.length ∨ 32768 < a.length ∨ 32768 < b.length) = true from decide_eq_true (by omega)]
      refine GC.reg ?_
      refine GL.val (rv_move rfl) rfl ?_
      refine GL.step (ot_call hb_29 rfl (callOk fun w hh => long_b _ A1 _ c1 w hb1) rfl fun _ _ => ?_)
      refine GL.val (rv_move rfl) rfl ?_
      first | refine GL.skipG rfl rfl ?_ | refine GL.skipU rfl rfl ?_ | refine GL.valT rfl (rv_move rfl) rfl ?_ | refine GL.valG rfl (fun hb => rv_move (by first | exact evb rfl hb | rfl)) rfl ?_
      first | refine GL.skipG rfl rfl ?_ | refine GL.skipU rfl rfl ?_ | refine GL.stepG rfl (ot_call hb_29 rfl (callOk fun w hh => long_b _ A2 _ c2 w hb2) rfl fun _ _ => ?_)
      refine GL.val ((by first | exact rv_orF rfl rfl rfl | exact rv_orT rfl rfl rfl | exact rv_pickOr rfl rfl rfl)) rfl ?_
      refine GL.val (rv_move rfl) rfl ?_
      first | refine GL.skipG rfl rfl ?_ | refine GL.skipU rfl rfl ?_ | refine GL.valT rfl (rv_move rfl) rfl ?_ | refine GL.valG rfl (fun hb => rv_move (by first | exact evb rfl hb | rfl)) rfl ?_
      first | refine GL.skipG rfl rfl ?_ | refine GL.skipU rfl rfl ?_ | refine GL.stepG rfl (ot_call hb_29 rfl (callOk fun w hh => long_b _ A3 _ c3 w hb3) rfl fun _ _ => ?_)
      refine GL.val ((by first | exact rv_orF rfl rfl rfl | exact rv_orT rfl rfl rfl | exact rv_pickOr rfl rfl rfl)) rfl ?_
      refine GL.nil ?_
      exact GX.cutq () trivial (by repeat (first | exact Sub.nil | refine Sub.cons rfl ?_)) (fun w9 h => by
          exact h)
    · have hb1 : decide (32768 < key.length) = false := decide_eq_false (by omega)
      have hb2 : decide (32768 < a.length) = false := decide_eq_false (by omega)
      have hb3 : decide (32768 < b.length) = false := decide_eq_false (by omega)
      rw [show decide (32768 < key.length ∨ 32768 < a.length ∨ 32768 < b.length) = false from decide_eq_false (by omega)]
      refine GC.reg ?_
      refine GL.val (rv_move rfl) rfl ?_
      refine GL.step (ot_call hb_29 rfl (callOk fun w hh => long_b _ A1 _ c1 w hb1) rfl fun _ _ => ?_)
      refine GL.val (rv_move rfl) rfl ?_
      first | refine GL.skipG rfl rfl ?_ | refine GL.skipU rfl rfl ?_ | refine GL.valT rfl (rv_move rfl) rfl ?_ | refine GL.valG rfl (fun hb => rv_move (by first | exact evb rfl hb | rfl)) rfl ?_
      first | refine GL.skipG rfl rfl ?_ | refine GL.skipU rfl rfl ?_ | refine GL.stepG rfl (ot_call hb_29 rfl (callOk fun w hh => long_b _ A2 _ c2 w hb2) rfl fun _ _ => ?_)
      refine GL.val ((by first | exact rv_orF rfl rfl rfl | exact rv_orT rfl rfl rfl | exact rv_pickOr rfl rfl rfl)) rfl ?_
      refine GL.val (rv_move rfl) rfl ?_
      first | refine GL.skipG rfl rfl ?_ | refine GL.skipU rfl rfl ?_ | refine GL.valT rfl (rv_move rfl) rfl ?_ | refine GL.valG rfl (fun hb => rv_move (by first | exact evb rfl hb | rfl)) rfl ?_
      first | refine GL.skipG rfl rfl ?_ | refine GL.skipU rfl rfl ?_ | refine GL.stepG rfl (ot_call hb_29 rfl (callOk fun w hh => long_b _ A3 _ c3 w hb3) rfl fun _ _ => ?_)
      refine GL.val ((by first | exact rv_orF rfl rfl rfl | exact rv_orT rfl rfl rfl | exact rv_pickOr rfl rfl rfl)) rfl ?_
      refine GL.nil ?_
      exact GX.cutq () trivial (by repeat (first | exact Sub.nil | refine Sub.cons rfl ?_)) (fun w9 h => by
          exact h)
  refine GX.then ?_
  first | refine GC.condP rfl (fun c19 => ?_) (fun c19 => ?_) | refine GC.cond rfl (fun c19 => ?_) (fun c19 => ?_)
  · refine GC.seq ?_
    refine GC.reg ?_
    refine GL.step (ot_call hb_30 rfl (callOk fun w hh => works2_c w) rfl fun _ _ => ?_)
    refine GL.val (rv_assign rfl) rfl ?_
    refine GL.nil ?_
    refine GX.then ?_
    refine GC.ret ?_
    refine GX.then_ret ?_
    refine GX.ret1 rfl (RR.tmp rfl) ?_
    exact fun w9 h => ⟨(), rfl, by
        have h := h.sel [] rfl rfl
        exact h, trivial⟩
  · have hf : ¬ (32768 < key.length ∨ 32768 < a.length ∨ 32768 < b.length) := by simpa using c19
    refine GC.skip ?_
    refine GX.then ?_
    refine GC.seq ?_
    refine GC.reg ?_
    refine GL.val (rv_move rfl) rfl ?_
    refine GL.val (rv_move rfl) rfl ?_
    refine GL.val (rv_move rfl) rfl ?_
    refine GL.step (ot_buildSlice ei_48 rfl rfl rfl rfl rfl rfl fun b24 => ?_)
    refine GL.step (ot_call hb_33 rfl (callOk fun w hh => join_b (some ⟨b24, 0, none⟩) 2 2 [(a, (A2, c2)), (b, (A3, c3))] (a ++ b) (by simp [cat]) w (slr_cl hh (k := 0) rfl rfl) (al (hh.rd0n hR2) (al (hh.rd0n hR3) an)) rfl (by decide) (by simp only [List.length_append]; omega)) rfl fun g25 _ => ?_)
    refine GL.step (ot_call hb_32 rfl (callOk fun w hh => rmac_c A1 _ c1 key g25.1 _ g25.2 (a ++ b) w (hh.rd0n hR1) rfl hc1 (by omega) (hh.ro (k := 0) rfl) rfl (by simp only [List.length_append]; omega)) rfl fun _ _ => ?_)
    refine GL.step (ot_alloc (zs := ws8 (List.replicate 32 0)) zb_24 (rfl) rfl fun b9 => ?_)
    refine GL.step (ot_storeA (k := 0) rfl rfl rfl rfl (by exact sz_24) (by first | (first | (simp only [ws8_len, List.length_replicate, mac_len]; done) | (simp only [ws8_len, hx]; done)) | rfl) (by first | (first | (simp only [ws8_len, List.length_replicate, mac_len]; done) | (simp only [ws8_len, hx]; done)) | rfl) (by first | exact ws8_one _ | rfl) ?_)
    refine GL.nil ?_
    refine GX.then ?_
    refine GC.seq ?_
    refine GC.draw 22 [0, 1, 2, 3] mo_ ?_
    refine GD.pure (i := 0) rfl (fun _ _ => rv_move rfl) (by kernel_rfl) (by repeat (first | exact noPanicPut_body | exact noPanicPut_cut | exact noPanicPut_cutE | refine noPanicPut_then ?_ | refine noPanicPut_blk ?_)) ?_
    refine GD.pure (i := 2) rfl (fun _ _ => rv_move rfl) (by kernel_rfl) (by repeat (first | exact noPanicPut_body | exact noPanicPut_cut | exact noPanicPut_cutE | refine noPanicPut_then ?_ | refine noPanicPut_blk ?_)) ?_
    refine GD.pure (i := 3) rfl (fun _ _ => rv_move rfl) (by kernel_rfl) (by repeat (first | exact noPanicPut_body | exact noPanicPut_cut | exact noPanicPut_cutE | refine noPanicPut_then ?_ | refine noPanicPut_blk ?_)) ?_
    refine GD.read (i := 1) rfl (rv_loadAL ag_24 rfl (Hd.cellsAll (k := 3) rfl) (by exact sz_24) (by first | (first | (simp only [ws8_len, List.length_replicate, mac_len]; done) | (simp only [ws8_len, hx]; done)) | rfl)) (by kernel_rfl) (by repeat (first | exact noPanicPut_body | exact noPanicPut_cut | exact noPanicPut_cutE | refine noPanicPut_then ?_ | refine noPanicPut_blk ?_)) ?_
    refine GD.read (i := 6) rfl (rv_loadAL ag_24 rfl (Hd.cellsAll (k := 3) rfl) (by exact sz_24) (by first | (first | (simp only [ws8_len, List.length_replicate, mac_len]; done) | (simp only [ws8_len, hx]; done)) | rfl)) (by kernel_rfl) (by repeat (first | exact noPanicPut_body | exact noPanicPut_cut | exact noPanicPut_cutE | refine noPanicPut_then ?_ | refine noPanicPut_blk ?_)) ?_
    refine GD.read (i := 7) rfl (rv_loadAL ag_24 rfl (Hd.cellsAll (k := 0) rfl) (by exact sz_24) (by first | (first | (simp only [ws8_len, List.length_replicate, mac_len]; done) | (simp only [ws8_len, hx]; done)) | rfl)) (by kernel_rfl) (by repeat (first | exact noPanicPut_body | exact noPanicPut_cut | exact noPanicPut_cutE | refine noPanicPut_then ?_ | refine noPanicPut_blk ?_)) ?_
    refine GD.pure (i := 8) rfl (fun _ _ => rv_eq24 rfl rfl hx (mac_len _ _)) (by kernel_rfl) (by repeat (first | exact noPanicPut_body | exact noPanicPut_cut | exact noPanicPut_cutE | refine noPanicPut_then ?_ | refine noPanicPut_blk ?_)) ?_
    refine GD.step (i := 4) (by kernel_rfl) rfl (ot_buildSlice ei_48 rfl rfl rfl rfl rfl rfl fun b31 => ⟨.inr fun _ h => h.pk [1, 2, 3, 4], ?_⟩)
    refine GD.step (i := 5) (by kernel_rfl) rfl (ot_call hb_36 rfl (callOk fun w hh => check_b _ A1 _ c1 key x (some ⟨b31, 0, none⟩) 2 2 [(a, (A2, c2)), (b, (A3, c3))] (a ++ b) (by simp [cat]) w hx (hh.rd0n hR1) rfl hc1 (by omega) (slr_cl hh (k := 0) rfl rfl) (al (hh.rd0n hR2) (al (hh.rd0n hR3) an)) (al (hc2) (al (hc3) an)) rfl (by decide) (by first | decide | omega | (simp only [List.length_append]; omega) | (simp only [List.length_append, List.length_nil]; omega)) rfl) rfl fun _ _ => ⟨.inr fun _ h => h.pk [1, 2, 3, 4], ?_⟩)
    refine GD.pure (i := 9) rfl (fun _ _ => rv_to (v' := .bool true) (rv_eqB rfl rfl (run_eqBool Try.underlying4)) (by simp)) (by kernel_rfl) (by repeat (first | exact noPanicPut_body | exact noPanicPut_cut | exact noPanicPut_cutE | refine noPanicPut_then ?_ | refine noPanicPut_blk ?_)) ?_
    refine GD.pure (i := 10) rfl (fun _ _ => rv_move rfl) (by kernel_rfl) (by repeat (first | exact noPanicPut_body | exact noPanicPut_cut | exact noPanicPut_cutE | refine noPanicPut_then ?_ | refine noPanicPut_blk ?_)) ?_
    first | refine GD.skipG (i := 11) rfl rfl (by kernel_rfl) (by repeat (first | exact noPanicPut_body | exact noPanicPut_cut | exact noPanicPut_cutE | refine noPanicPut_then ?_ | refine noPanicPut_blk ?_)) ?_ | refine GD.pureG (i := 11) rfl rfl (fun _ _ => rv_move rfl) (by kernel_rfl) (by repeat (first | exact noPanicPut_body | exact noPanicPut_cut | exact noPanicPut_cutE | refine noPanicPut_then ?_ | refine noPanicPut_blk ?_)) ?_
    first | refine GD.skipG (i := 13) rfl rfl (by kernel_rfl) (by repeat (first | exact noPanicPut_body | exact noPanicPut_cut | exact noPanicPut_cutE | refine noPanicPut_then ?_ | refine noPanicPut_blk ?_)) ?_ | refine GD.pureG (i := 13) rfl rfl (fun _ _ => rv_move rfl) (by kernel_rfl) (by repeat (first | exact noPanicPut_body | exact noPanicPut_cut | exact noPanicPut_cutE | refine noPanicPut_then ?_ | refine noPanicPut_blk ?_)) ?_
    first | refine GD.skipG (i := 14) rfl rfl (by kernel_rfl) (by repeat (first | exact noPanicPut_body | exact noPanicPut_cut | exact noPanicPut_cutE | refine noPanicPut_then ?_ | refine noPanicPut_blk ?_)) ?_ | refine GD.pureG (i := 14) rfl rfl (fun _ _ => rv_move rfl) (by kernel_rfl) (by repeat (first | exact noPanicPut_body | exact noPanicPut_cut | exact noPanicPut_cutE | refine noPanicPut_then ?_ | refine noPanicPut_blk ?_)) ?_
    first | refine GD.skipG (i := 12) rfl rfl (by kernel_rfl) (by repeat (first | exact noPanicPut_body | exact noPanicPut_cut | exact noPanicPut_cutE | refine noPanicPut_then ?_ | refine noPanicPut_blk ?_)) ?_ | refine GD.readG (i := 12) rfl rfl (rv_loadAL ag_24 rfl (Hd.cellsAll (k := 0) rfl) (by exact sz_24) (by first | (first | (simp only [ws8_len, List.length_replicate, mac_len]; done) | (simp only [ws8_len, hx]; done)) | rfl)) (by kernel_rfl) (by repeat (first | exact noPanicPut_body | exact noPanicPut_cut | exact noPanicPut_cutE | refine noPanicPut_then ?_ | refine noPanicPut_blk ?_)) ?_
    first | refine GD.skipG (i := 15) rfl rfl (by kernel_rfl) (by repeat (first | exact noPanicPut_body | exact noPanicPut_cut | exact noPanicPut_cutE | refine noPanicPut_then ?_ | refine noPanicPut_blk ?_)) ?_ | refine GD.stepG (i := 15) (by kernel_rfl) rfl rfl (ot_buildSlice ei_48 rfl rfl rfl rfl rfl rfl fun b42 => ⟨.inr fun _ h => h.pk [2, 3, 4, 5], ?_⟩)
    first | refine GD.skipG (i := 16) rfl rfl (by kernel_rfl) (by repeat (first | exact noPanicPut_body | exact noPanicPut_cut | exact noPanicPut_cutE | refine noPanicPut_then ?_ | refine noPanicPut_blk ?_)) ?_ | refine GD.stepG (i := 16) (by kernel_rfl) rfl rfl (ot_call hb_36 rfl (callOk fun w hh => check_b true A1 _ c1 key (mac key (a ++ b)) (some ⟨b42, 0, none⟩) 2 2 [(a, (A2, c2)), (b, (A3, c3))] (a ++ b) (by simp [cat]) w (mac_len _ _) (hh.rd0n hR1) rfl hc1 (by omega) (slr_cl hh (k := 0) rfl rfl) (al (hh.rd0n hR2) (al (hh.rd0n hR3) an)) (al (hc2) (al (hc3) an)) rfl (by decide) (by first | decide | omega | (simp only [List.length_append]; omega) | (simp only [List.length_append, List.length_nil]; omega)) (decide_eq_true rfl)) rfl fun _ _ => ⟨.inr fun _ h => h.pk [2, 3, 4, 5], ?_⟩)
    refine GD.pure (i := 17) rfl (fun _ _ => (by first | exact rv_andT rfl rfl rfl | exact rv_andF rfl rfl rfl | exact rv_pickAnd rfl rfl rfl)) (by kernel_rfl) (by repeat (first | exact noPanicPut_body | exact noPanicPut_cut | exact noPanicPut_cutE | refine noPanicPut_then ?_ | refine noPanicPut_blk ?_)) ?_
    refine GD.pure (i := 18) rfl (fun _ _ => rv_move rfl) (by kernel_rfl) (by repeat (first | exact noPanicPut_body | exact noPanicPut_cut | exact noPanicPut_cutE | refine noPanicPut_then ?_ | refine noPanicPut_blk ?_)) ?_
    first | refine GD.skipG (i := 19) rfl rfl (by kernel_rfl) (by repeat (first | exact noPanicPut_body | exact noPanicPut_cut | exact noPanicPut_cutE | refine noPanicPut_then ?_ | refine noPanicPut_blk ?_)) ?_ | refine GD.stepG (i := 19) (by kernel_rfl) rfl rfl (ot_call hb_30 rfl (callOk fun w hh => works2_c w) rfl fun _ _ => ⟨.inr fun _ h => h.pk [2, 3, 4, 5], ?_⟩)
    refine GD.pure (i := 20) rfl (fun _ _ => (by first | exact rv_andT rfl rfl rfl | exact rv_andF rfl rfl rfl | exact rv_pickAnd rfl rfl rfl)) (by kernel_rfl) (by repeat (first | exact noPanicPut_body | exact noPanicPut_cut | exact noPanicPut_cutE | refine noPanicPut_then ?_ | refine noPanicPut_blk ?_)) ?_
    refine GD.pure (i := 21) rfl (fun _ _ => rv_assign rfl) (by kernel_rfl) (by repeat (first | exact noPanicPut_body | exact noPanicPut_cut | exact noPanicPut_cutE | refine noPanicPut_then ?_ | refine noPanicPut_blk ?_)) ?_
    refine GD.done (by kernel_rfl) ?_
    refine GX.then ?_
    refine GC.ret ?_
    refine GX.ret1 rfl (RR.tmp rfl) ?_
    exact fun w9 h => ⟨(), rfl, by
        have h := h.sel [] rfl rfl
        exact h, trivial⟩
theorem u8_of {z : Int} (h : (Lit.int .u8 z).wf = true) : Value.int .u8 z = v8 (UInt8.ofNat z.toNat) := by
  have hm : IntKind.u8.min = 0 := by decide
  have hM : IntKind.u8.max = 255 := by decide
  have h0 : 0 ≤ z ∧ z ≤ 255 := by simpa [Lit.wf, hm, hM] using h
  show Value.int .u8 z = .int .u8 ((UInt8.ofNat z.toNat).toNat : Int)
  rw [UInt8.toNat_ofNat', Nat.mod_eq_of_lt (by omega)]
  congr 1; omega
theorem keys_int (A1 : Option Addr) (n1 c1 : Nat) (key : Sh.B) (z : Int) (A2 : Option Addr) (n2 c2 : Nat) (b : Sh.B) (w : World) (hz : (Lit.int .u8 z).wf = true) (hR1 : SlR w A1 (byts key)) (hl1 : key.length = n1) (hc1 : n1 ≤ c1) (hR2 : SlR w A2 (byts b)) (hl2 : b.length = n2) (hc2 : n2 ≤ c2) : Calls Try.prog 10 [.slice A1 n1 c1, .int .u8 z, .slice A2 n2 c2].toArray w fun e w' => ∃ _g : Unit, e = .returned (.bool true) ∧ St noB w w' [] ∧ True := by
  rw [u8_of hz]; exact keys_law A1 n1 c1 key _ A2 n2 c2 b w hR1 hl1 hc1 hR2 hl2 hc2
end Go.Proofs.Ytaocclmdlpnjbaa
