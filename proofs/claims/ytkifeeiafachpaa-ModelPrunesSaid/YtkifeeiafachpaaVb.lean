import Derived.Test.YtkifeeiafachpaaVa
set_option linter.unusedVariables false
set_option linter.unusedSimpArgs false
namespace Go.Proofs.Ytkifeeiafachpaa
open Go Go.RowKit Go.Bz
theorem hb_21 : hasBody Try.prog 21 = true := by kernel_rfl
theorem hb_55 : hasBody Try.prog 55 = true := by kernel_rfl
set_option maxRecDepth 100000 in
set_option maxHeartbeats 1000000 in
theorem rname_c (nm : ByteArray) (w : World) (hs : nm.size < 4611686018427387904) : Calls Try.prog 21 [.string nm].toArray w fun e w' => ∃ _g : Unit, e = .returned (.bool (okn nm)) ∧ St noB w w' [] ∧ True := by
  refine GC.calls Try.func21 rfl rfl (St.begin _) ?_
  refine GC.seq ?_
  refine GC.reg ?_
  refine GL.val (rv_assign rfl) rfl ?_
  refine GL.nil ?_
  refine GX.then ?_
  refine GC.seq ?_
  refine GC.seq ?_
  refine GC.cutq (γ := Unit) [0] [] (fun g Lk => (14, .bool (decide (¬ (1 ≤ nm.size ∧ nm.size ≤ 32)))) :: Lk) (fun g Fk => Fk) (fun g => True) rfl rfl ?_ (fun _ _ => ?_)
  · rcases (by omega : (nm.size = 0) ∨ (1 ≤ nm.size ∧ nm.size ≤ 32) ∨ (32 < nm.size)) with h | h | h
    · rw [show decide (¬ (1 ≤ nm.size ∧ nm.size ≤ 32)) = true from decide_eq_true (by omega)]
      refine GC.reg ?_
      refine GL.val (rv_move rfl) rfl ?_
      refine GL.val (rv_lenS Try.underlying9 rfl) rfl ?_
      refine GL.val ((by exact rv_to (v' := .bool true) (rv_lss rfl rfl) (by simp only [Value.bool.injEq, decide_eq_true_eq, decide_eq_false_iff_not]; first | assumption | omega))) rfl ?_
      refine GL.val (rv_move rfl) rfl ?_
      refine GL.skipG rfl rfl ?_
      refine GL.skipG rfl rfl ?_
      refine GL.skipG rfl rfl ?_
      refine GL.val ((by exact rv_orT rfl rfl rfl)) rfl ?_
      refine GL.nil ?_
      exact GX.cutq () trivial (by repeat (first | exact Sub.nil | refine Sub.cons rfl ?_)) (fun w9 h => by
          exact h)
    · rw [show decide (¬ (1 ≤ nm.size ∧ nm.size ≤ 32)) = false from decide_eq_false (by omega)]
      refine GC.reg ?_
      refine GL.val (rv_move rfl) rfl ?_
      refine GL.val (rv_lenS Try.underlying9 rfl) rfl ?_
      refine GL.val ((by exact rv_to (v' := .bool false) (rv_lss rfl rfl) (by simp only [Value.bool.injEq, decide_eq_true_eq, decide_eq_false_iff_not]; first | assumption | omega))) rfl ?_
      refine GL.val (rv_move rfl) rfl ?_
      refine GL.valT rfl (rv_move rfl) rfl ?_
      refine GL.valT rfl (rv_lenS Try.underlying9 rfl) rfl ?_
      refine GL.valT rfl ((by exact rv_to (v' := .bool false) (rv_gtr rfl rfl) (by simp only [Value.bool.injEq, decide_eq_true_eq, decide_eq_false_iff_not]; first | assumption | omega))) rfl ?_
      refine GL.val ((by exact rv_orF rfl rfl rfl)) rfl ?_
      refine GL.nil ?_
      exact GX.cutq () trivial (by repeat (first | exact Sub.nil | refine Sub.cons rfl ?_)) (fun w9 h => by
          exact h)
    · rw [show decide (¬ (1 ≤ nm.size ∧ nm.size ≤ 32)) = true from decide_eq_true (by omega)]
      refine GC.reg ?_
      refine GL.val (rv_move rfl) rfl ?_
      refine GL.val (rv_lenS Try.underlying9 rfl) rfl ?_
      refine GL.val ((by exact rv_to (v' := .bool false) (rv_lss rfl rfl) (by simp only [Value.bool.injEq, decide_eq_true_eq, decide_eq_false_iff_not]; first | assumption | omega))) rfl ?_
      refine GL.val (rv_move rfl) rfl ?_
      refine GL.valT rfl (rv_move rfl) rfl ?_
      refine GL.valT rfl (rv_lenS Try.underlying9 rfl) rfl ?_
      refine GL.valT rfl ((by exact rv_to (v' := .bool true) (rv_gtr rfl rfl) (by simp only [Value.bool.injEq, decide_eq_true_eq, decide_eq_false_iff_not]; first | assumption | omega))) rfl ?_
      refine GL.val ((by exact rv_orF rfl rfl rfl)) rfl ?_
      refine GL.nil ?_
      exact GX.cutq () trivial (by repeat (first | exact Sub.nil | refine Sub.cons rfl ?_)) (fun w9 h => by
          exact h)
  refine GX.then ?_
  refine GC.condP rfl (fun c14 => ?_) (fun c14 => ?_)
  · have hsz : ¬ (1 ≤ nm.size ∧ nm.size ≤ 32) := by simpa using c14
    refine GC.seq ?_
    refine GC.reg ?_
    refine GL.val (rv_assign rfl) rfl ?_
    refine GL.nil ?_
    refine GX.then ?_
    refine GC.ret ?_
    refine GX.then_ret ?_
    refine GX.ret1 rfl (RR.tmp rfl) ?_
    exact fun w9 h => ⟨(), (by unfold okn; rw [decide_eq_false hsz, Bool.false_and]), by
        exact h, trivial⟩
  · have hsz : 1 ≤ nm.size ∧ nm.size ≤ 32 := by simpa using c14
    refine GC.skip ?_
    refine GX.then ?_
    refine GC.seq ?_
    refine GC.seq ?_
    refine GC.reg ?_
    refine GL.val (rv_assign rfl) rfl ?_
    refine GL.nil ?_
    refine GX.then ?_
    refine GC.block ?_
    refine GC.loopK (γ := Nat) [0] [] (fun g Lk => (3, .int .i64 (g : Int)) :: Lk) (fun g Fk => Fk) (fun g => (g ≤ nm.size) ∧ (allb (nm.data.toList.take g) = true)) (fun g => nm.size - g) (0) rfl rfl ⟨Nat.zero_le _, rfl⟩ (by repeat (first | exact Sub.nil | refine Sub.cons rfl ?_)) (fun w9 h => by
        exact h) (fun i ⟨hi, ha⟩ => ?_)
    skip
    refine GC.seq ?_
    refine GC.seq ?_
    refine GC.reg ?_
    refine GL.val (rv_move rfl) rfl ?_
    refine GL.val (rv_move rfl) rfl ?_
    refine GL.val (rv_lenS Try.underlying9 rfl) rfl ?_
    refine GL.val (rv_lss rfl rfl) rfl ?_
    refine GL.nil ?_
    refine GX.then ?_
    refine GC.condP rfl (fun c18 => ?_) (fun c18 => ?_)
    · have hlt : i < nm.size := by omega
      refine GC.skip ?_
      refine GX.then ?_
      refine GC.seq ?_
      refine GC.block ?_
      refine GC.seq ?_
      refine GC.reg ?_
      refine GL.val (rv_move rfl) rfl ?_
      refine GL.val (rv_move rfl) rfl ?_
      refine GL.val (rv_indexS i Try.underlying9 rfl rfl rfl (by omega)) rfl ?_
      refine GL.val (rv_assign rfl) rfl ?_
      refine GL.nil ?_
      refine GX.then ?_
      refine GC.seq ?_
      refine GC.cutq (γ := Unit) [4, 3, 0] [] (fun g Lk => (5, .bool (decide (97 ≤ (nm.data.toList.getD i 0).toNat ∧ (nm.data.toList.getD i 0).toNat ≤ 122))) :: Lk) (fun g Fk => Fk) (fun g => True) rfl rfl ?_ (fun _ _ => ?_)
      · rcases (by omega : ((nm.data.toList.getD i 0).toNat < 97) ∨ (97 ≤ (nm.data.toList.getD i 0).toNat ∧ (nm.data.toList.getD i 0).toNat ≤ 122) ∨ (122 < (nm.data.toList.getD i 0).toNat)) with h | h | h
        · rw [show decide (97 ≤ (nm.data.toList.getD i 0).toNat ∧ (nm.data.toList.getD i 0).toNat ≤ 122) = false from decide_eq_false (by omega)]
          refine GC.reg ?_
          refine GL.val (rv_move rfl) rfl ?_
          refine GL.val ((by exact rv_to (v' := .bool false) (rv_geq rfl rfl) (by simp only [Value.bool.injEq, decide_eq_true_eq, decide_eq_false_iff_not]; first | assumption | omega))) rfl ?_
          refine GL.val (rv_move rfl) rfl ?_
          refine GL.skipG rfl rfl ?_
          refine GL.skipG rfl rfl ?_
          refine GL.val ((by exact rv_andF rfl rfl rfl)) rfl ?_
          refine GL.val (rv_assign rfl) rfl ?_
          refine GL.nil ?_
          exact GX.cutq () trivial (by repeat (first | exact Sub.nil | refine Sub.cons rfl ?_)) (fun w9 h => by
              exact h)
        · rw [show decide (97 ≤ (nm.data.toList.getD i 0).toNat ∧ (nm.data.toList.getD i 0).toNat ≤ 122) = true from decide_eq_true (by omega)]
          refine GC.reg ?_
          refine GL.val (rv_move rfl) rfl ?_
          refine GL.val ((by exact rv_to (v' := .bool true) (rv_geq rfl rfl) (by simp only [Value.bool.injEq, decide_eq_true_eq, decide_eq_false_iff_not]; first | assumption | omega))) rfl ?_
          refine GL.val (rv_move rfl) rfl ?_
          refine GL.valT rfl (rv_move rfl) rfl ?_
          refine GL.valT rfl ((by exact rv_to (v' := .bool true) (rv_leq rfl rfl) (by simp only [Value.bool.injEq, decide_eq_true_eq, decide_eq_false_iff_not]; first | assumption | omega))) rfl ?_
          refine GL.val ((by exact rv_andT rfl rfl rfl)) rfl ?_
          refine GL.val (rv_assign rfl) rfl ?_
          refine GL.nil ?_
          exact GX.cutq () trivial (by repeat (first | exact Sub.nil | refine Sub.cons rfl ?_)) (fun w9 h => by
              exact h)
        · rw [show decide (97 ≤ (nm.data.toList.getD i 0).toNat ∧ (nm.data.toList.getD i 0).toNat ≤ 122) = false from decide_eq_false (by omega)]
          refine GC.reg ?_
          refine GL.val (rv_move rfl) rfl ?_
          refine GL.val ((by exact rv_to (v' := .bool true) (rv_geq rfl rfl) (by simp only [Value.bool.injEq, decide_eq_true_eq, decide_eq_false_iff_not]; first | assumption | omega))) rfl ?_
          refine GL.val (rv_move rfl) rfl ?_
          refine GL.valT rfl (rv_move rfl) rfl ?_
          refine GL.valT rfl ((by exact rv_to (v' := .bool false) (rv_leq rfl rfl) (by simp only [Value.bool.injEq, decide_eq_true_eq, decide_eq_false_iff_not]; first | assumption | omega))) rfl ?_
          refine GL.val ((by exact rv_andT rfl rfl rfl)) rfl ?_
          refine GL.val (rv_assign rfl) rfl ?_
          refine GL.nil ?_
          exact GX.cutq () trivial (by repeat (first | exact Sub.nil | refine Sub.cons rfl ?_)) (fun w9 h => by
              exact h)
      refine GX.then ?_
      refine GC.seq ?_
      refine GC.cutq (γ := Unit) [5, 4, 3, 0] [] (fun g Lk => (6, .bool (decide (48 ≤ (nm.data.toList.getD i 0).toNat ∧ (nm.data.toList.getD i 0).toNat ≤ 57))) :: Lk) (fun g Fk => Fk) (fun g => True) rfl rfl ?_ (fun _ _ => ?_)
      · rcases (by omega : ((nm.data.toList.getD i 0).toNat < 48) ∨ (48 ≤ (nm.data.toList.getD i 0).toNat ∧ (nm.data.toList.getD i 0).toNat ≤ 57) ∨ (57 < (nm.data.toList.getD i 0).toNat)) with h | h | h
        · rw [show decide (48 ≤ (nm.data.toList.getD i 0).toNat ∧ (nm.data.toList.getD i 0).toNat ≤ 57) = false from decide_eq_false (by omega)]
          refine GC.reg ?_
          refine GL.val (rv_move rfl) rfl ?_
          refine GL.val ((by exact rv_to (v' := .bool false) (rv_geq rfl rfl) (by simp only [Value.bool.injEq, decide_eq_true_eq, decide_eq_false_iff_not]; first | assumption | omega))) rfl ?_
          refine GL.val (rv_move rfl) rfl ?_
          refine GL.skipG rfl rfl ?_
          refine GL.skipG rfl rfl ?_
          refine GL.val ((by exact rv_andF rfl rfl rfl)) rfl ?_
          refine GL.val (rv_assign rfl) rfl ?_
          refine GL.nil ?_
          exact GX.cutq () trivial (by repeat (first | exact Sub.nil | refine Sub.cons rfl ?_)) (fun w9 h => by
              exact h)
        · rw [show decide (48 ≤ (nm.data.toList.getD i 0).toNat ∧ (nm.data.toList.getD i 0).toNat ≤ 57) = true from decide_eq_true (by omega)]
          refine GC.reg ?_
          refine GL.val (rv_move rfl) rfl ?_
          refine GL.val ((by exact rv_to (v' := .bool true) (rv_geq rfl rfl) (by simp only [Value.bool.injEq, decide_eq_true_eq, decide_eq_false_iff_not]; first | assumption | omega))) rfl ?_
          refine GL.val (rv_move rfl) rfl ?_
          refine GL.valT rfl (rv_move rfl) rfl ?_
          refine GL.valT rfl ((by exact rv_to (v' := .bool true) (rv_leq rfl rfl) (by simp only [Value.bool.injEq, decide_eq_true_eq, decide_eq_false_iff_not]; first | assumption | omega))) rfl ?_
          refine GL.val ((by exact rv_andT rfl rfl rfl)) rfl ?_
          refine GL.val (rv_assign rfl) rfl ?_
          refine GL.nil ?_
          exact GX.cutq () trivial (by repeat (first | exact Sub.nil | refine Sub.cons rfl ?_)) (fun w9 h => by
              exact h)
        · rw [show decide (48 ≤ (nm.data.toList.getD i 0).toNat ∧ (nm.data.toList.getD i 0).toNat ≤ 57) = false from decide_eq_false (by omega)]
          refine GC.reg ?_
          refine GL.val (rv_move rfl) rfl ?_
          refine GL.val ((by exact rv_to (v' := .bool true) (rv_geq rfl rfl) (by simp only [Value.bool.injEq, decide_eq_true_eq, decide_eq_false_iff_not]; first | assumption | omega))) rfl ?_
          refine GL.val (rv_move rfl) rfl ?_
          refine GL.valT rfl (rv_move rfl) rfl ?_
          refine GL.valT rfl ((by exact rv_to (v' := .bool false) (rv_leq rfl rfl) (by simp only [Value.bool.injEq, decide_eq_true_eq, decide_eq_false_iff_not]; first | assumption | omega))) rfl ?_
          refine GL.val ((by exact rv_andT rfl rfl rfl)) rfl ?_
          refine GL.val (rv_assign rfl) rfl ?_
          refine GL.nil ?_
          exact GX.cutq () trivial (by repeat (first | exact Sub.nil | refine Sub.cons rfl ?_)) (fun w9 h => by
              exact h)
      refine GX.then ?_
      refine GC.seq ?_
      refine GC.cutq (γ := Unit) [3, 0] [] (fun g Lk => (49, .bool (!okb (nm.data.toList.getD i 0).toNat)) :: Lk) (fun g Fk => Fk) (fun g => True) rfl rfl ?_ (fun _ _ => ?_)
      · rcases (by omega : (122 < (nm.data.toList.getD i 0).toNat) ∨ (97 ≤ (nm.data.toList.getD i 0).toNat ∧ (nm.data.toList.getD i 0).toNat ≤ 122) ∨ (57 < (nm.data.toList.getD i 0).toNat ∧ (nm.data.toList.getD i 0).toNat < 97) ∨ (48 ≤ (nm.data.toList.getD i 0).toNat ∧ (nm.data.toList.getD i 0).toNat ≤ 57) ∨ ((nm.data.toList.getD i 0).toNat = 47) ∨ ((nm.data.toList.getD i 0).toNat = 46) ∨ ((nm.data.toList.getD i 0).toNat = 45) ∨ ((nm.data.toList.getD i 0).toNat < 45)) with h | h | h | h | h | h | h | h
        · rw [show okb (nm.data.toList.getD i 0).toNat = false from by unfold okb; exact decide_eq_false (by omega)]
          rw [show decide (97 ≤ (nm.data.toList.getD i 0).toNat ∧ (nm.data.toList.getD i 0).toNat ≤ 122) = false from decide_eq_false (by omega), show decide (48 ≤ (nm.data.toList.getD i 0).toNat ∧ (nm.data.toList.getD i 0).toNat ≤ 57) = false from decide_eq_false (by omega)]
          refine GC.reg ?_
          refine GL.val (rv_move rfl) rfl ?_
          refine GL.val (rv_not rfl) rfl ?_
          refine GL.val (rv_move rfl) rfl ?_
          refine GL.valT rfl (rv_move rfl) rfl ?_
          refine GL.valT rfl (rv_not rfl) rfl ?_
          refine GL.val ((by exact rv_andT rfl rfl rfl)) rfl ?_
          refine GL.val (rv_move rfl) rfl ?_
          refine GL.valT rfl (rv_move rfl) rfl ?_
          refine GL.valT rfl ((by exact rv_to (v' := .bool true) (rv_neI rfl rfl) (by simp only [Value.bool.injEq, decide_eq_true_eq, decide_eq_false_iff_not]; first | assumption | omega))) rfl ?_
          refine GL.val ((by exact rv_andT rfl rfl rfl)) rfl ?_
          refine GL.val (rv_move rfl) rfl ?_
          refine GL.valT rfl (rv_move rfl) rfl ?_
          refine GL.valT rfl ((by exact rv_to (v' := .bool true) (rv_neI rfl rfl) (by simp only [Value.bool.injEq, decide_eq_true_eq, decide_eq_false_iff_not]; first | assumption | omega))) rfl ?_
          refine GL.val ((by exact rv_andT rfl rfl rfl)) rfl ?_
          refine GL.nil ?_
          exact GX.cutq () trivial (by repeat (first | exact Sub.nil | refine Sub.cons rfl ?_)) (fun w9 h => by
              exact h)
        · rw [show okb (nm.data.toList.getD i 0).toNat = true from by unfold okb; exact decide_eq_true (by omega)]
          rw [show decide (97 ≤ (nm.data.toList.getD i 0).toNat ∧ (nm.data.toList.getD i 0).toNat ≤ 122) = true from decide_eq_true (by omega), show decide (48 ≤ (nm.data.toList.getD i 0).toNat ∧ (nm.data.toList.getD i 0).toNat ≤ 57) = false from decide_eq_false (by omega)]
          refine GC.reg ?_
          refine GL.val (rv_move rfl) rfl ?_
          refine GL.val (rv_not rfl) rfl ?_
          refine GL.val (rv_move rfl) rfl ?_
          refine GL.skipG rfl rfl ?_
          refine GL.skipG rfl rfl ?_
          refine GL.val ((by exact rv_andF rfl rfl rfl)) rfl ?_
          refine GL.val (rv_move rfl) rfl ?_
          refine GL.skipG rfl rfl ?_
          refine GL.skipG rfl rfl ?_
          refine GL.val ((by exact rv_andF rfl rfl rfl)) rfl ?_
          refine GL.val (rv_move rfl) rfl ?_
          refine GL.skipG rfl rfl ?_
          refine GL.skipG rfl rfl ?_
          refine GL.val ((by exact rv_andF rfl rfl rfl)) rfl ?_
          refine GL.nil ?_
          exact GX.cutq () trivial (by repeat (first | exact Sub.nil | refine Sub.cons rfl ?_)) (fun w9 h => by
              exact h)
        · rw [show okb (nm.data.toList.getD i 0).toNat = false from by unfold okb; exact decide_eq_false (by omega)]
          rw [show decide (97 ≤ (nm.data.toList.getD i 0).toNat ∧ (nm.data.toList.getD i 0).toNat ≤ 122) = false from decide_eq_false (by omega), show decide (48 ≤ (nm.data.toList.getD i 0).toNat ∧ (nm.data.toList.getD i 0).toNat ≤ 57) = false from decide_eq_false (by omega)]
          refine GC.reg ?_
          refine GL.val (rv_move rfl) rfl ?_
          refine GL.val (rv_not rfl) rfl ?_
          refine GL.val (rv_move rfl) rfl ?_
          refine GL.valT rfl (rv_move rfl) rfl ?_
          refine GL.valT rfl (rv_not rfl) rfl ?_
          refine GL.val ((by exact rv_andT rfl rfl rfl)) rfl ?_
          refine GL.val (rv_move rfl) rfl ?_
          refine GL.valT rfl (rv_move rfl) rfl ?_
          refine GL.valT rfl ((by exact rv_to (v' := .bool true) (rv_neI rfl rfl) (by simp only [Value.bool.injEq, decide_eq_true_eq, decide_eq_false_iff_not]; first | assumption | omega))) rfl ?_
          refine GL.val ((by exact rv_andT rfl rfl rfl)) rfl ?_
          refine GL.val (rv_move rfl) rfl ?_
          refine GL.valT rfl (rv_move rfl) rfl ?_
          refine GL.valT rfl ((by exact rv_to (v' := .bool true) (rv_neI rfl rfl) (by simp only [Value.bool.injEq, decide_eq_true_eq, decide_eq_false_iff_not]; first | assumption | omega))) rfl ?_
          refine GL.val ((by exact rv_andT rfl rfl rfl)) rfl ?_
          refine GL.nil ?_
          exact GX.cutq () trivial (by repeat (first | exact Sub.nil | refine Sub.cons rfl ?_)) (fun w9 h => by
              exact h)
        · rw [show okb (nm.data.toList.getD i 0).toNat = true from by unfold okb; exact decide_eq_true (by omega)]
          rw [show decide (97 ≤ (nm.data.toList.getD i 0).toNat ∧ (nm.data.toList.getD i 0).toNat ≤ 122) = false from decide_eq_false (by omega), show decide (48 ≤ (nm.data.toList.getD i 0).toNat ∧ (nm.data.toList.getD i 0).toNat ≤ 57) = true from decide_eq_true (by omega)]
          refine GC.reg ?_
          refine GL.val (rv_move rfl) rfl ?_
          refine GL.val (rv_not rfl) rfl ?_
          refine GL.val (rv_move rfl) rfl ?_
          refine GL.valT rfl (rv_move rfl) rfl ?_
          refine GL.valT rfl (rv_not rfl) rfl ?_
          refine GL.val ((by exact rv_andT rfl rfl rfl)) rfl ?_
          refine GL.val (rv_move rfl) rfl ?_
          refine GL.skipG rfl rfl ?_
          refine GL.skipG rfl rfl ?_
          refine GL.val ((by exact rv_andF rfl rfl rfl)) rfl ?_
          refine GL.val (rv_move rfl) rfl ?_
          refine GL.skipG rfl rfl ?_
          refine GL.skipG rfl rfl ?_
          refine GL.val ((by exact rv_andF rfl rfl rfl)) rfl ?_
          refine GL.nil ?_
          exact GX.cutq () trivial (by repeat (first | exact Sub.nil | refine Sub.cons rfl ?_)) (fun w9 h => by
              exact h)
        · rw [show okb (nm.data.toList.getD i 0).toNat = false from by unfold okb; exact decide_eq_false (by omega)]
          rw [show decide (97 ≤ (nm.data.toList.getD i 0).toNat ∧ (nm.data.toList.getD i 0).toNat ≤ 122) = false from decide_eq_false (by omega), show decide (48 ≤ (nm.data.toList.getD i 0).toNat ∧ (nm.data.toList.getD i 0).toNat ≤ 57) = false from decide_eq_false (by omega)]
          refine GC.reg ?_
          refine GL.val (rv_move rfl) rfl ?_
          refine GL.val (rv_not rfl) rfl ?_
          refine GL.val (rv_move rfl) rfl ?_
          refine GL.valT rfl (rv_move rfl) rfl ?_
          refine GL.valT rfl (rv_not rfl) rfl ?_
          refine GL.val ((by exact rv_andT rfl rfl rfl)) rfl ?_
          refine GL.val (rv_move rfl) rfl ?_
          refine GL.valT rfl (rv_move rfl) rfl ?_
          refine GL.valT rfl ((by exact rv_to (v' := .bool true) (rv_neI rfl rfl) (by simp only [Value.bool.injEq, decide_eq_true_eq, decide_eq_false_iff_not]; first | assumption | omega))) rfl ?_
          refine GL.val ((by exact rv_andT rfl rfl rfl)) rfl ?_
          refine GL.val (rv_move rfl) rfl ?_
          refine GL.valT rfl (rv_move rfl) rfl ?_
          refine GL.valT rfl ((by exact rv_to (v' := .bool true) (rv_neI rfl rfl) (by simp only [Value.bool.injEq, decide_eq_true_eq, decide_eq_false_iff_not]; first | assumption | omega))) rfl ?_
          refine GL.val ((by exact rv_andT rfl rfl rfl)) rfl ?_
          refine GL.nil ?_
          exact GX.cutq () trivial (by repeat (first | exact Sub.nil | refine Sub.cons rfl ?_)) (fun w9 h => by
              exact h)
        · rw [show okb (nm.data.toList.getD i 0).toNat = true from by unfold okb; exact decide_eq_true (by omega)]
          rw [show decide (97 ≤ (nm.data.toList.getD i 0).toNat ∧ (nm.data.toList.getD i 0).toNat ≤ 122) = false from decide_eq_false (by omega), show decide (48 ≤ (nm.data.toList.getD i 0).toNat ∧ (nm.data.toList.getD i 0).toNat ≤ 57) = false from decide_eq_false (by omega)]
          refine GC.reg ?_
          refine GL.val (rv_move rfl) rfl ?_
          refine GL.val (rv_not rfl) rfl ?_
          refine GL.val (rv_move rfl) rfl ?_
          refine GL.valT rfl (rv_move rfl) rfl ?_
          refine GL.valT rfl (rv_not rfl) rfl ?_
          refine GL.val ((by exact rv_andT rfl rfl rfl)) rfl ?_
          refine GL.val (rv_move rfl) rfl ?_
          refine GL.valT rfl (rv_move rfl) rfl ?_
          refine GL.valT rfl ((by exact rv_to (v' := .bool false) (rv_neI rfl rfl) (by simp only [Value.bool.injEq, decide_eq_true_eq, decide_eq_false_iff_not]; first | assumption | omega))) rfl ?_
          refine GL.val ((by exact rv_andT rfl rfl rfl)) rfl ?_
          refine GL.val (rv_move rfl) rfl ?_
          refine GL.skipG rfl rfl ?_
          refine GL.skipG rfl rfl ?_
          refine GL.val ((by exact rv_andF rfl rfl rfl)) rfl ?_
          refine GL.nil ?_
          exact GX.cutq () trivial (by repeat (first | exact Sub.nil | refine Sub.cons rfl ?_)) (fun w9 h => by
              exact h)
        · rw [show okb (nm.data.toList.getD i 0).toNat = true from by unfold okb; exact decide_eq_true (by omega)]
          rw [show decide (97 ≤ (nm.data.toList.getD i 0).toNat ∧ (nm.data.toList.getD i 0).toNat ≤ 122) = false from decide_eq_false (by omega), show decide (48 ≤ (nm.data.toList.getD i 0).toNat ∧ (nm.data.toList.getD i 0).toNat ≤ 57) = false from decide_eq_false (by omega)]
          refine GC.reg ?_
          refine GL.val (rv_move rfl) rfl ?_
          refine GL.val (rv_not rfl) rfl ?_
          refine GL.val (rv_move rfl) rfl ?_
          refine GL.valT rfl (rv_move rfl) rfl ?_
          refine GL.valT rfl (rv_not rfl) rfl ?_
          refine GL.val ((by exact rv_andT rfl rfl rfl)) rfl ?_
          refine GL.val (rv_move rfl) rfl ?_
          refine GL.valT rfl (rv_move rfl) rfl ?_
          refine GL.valT rfl ((by exact rv_to (v' := .bool true) (rv_neI rfl rfl) (by simp only [Value.bool.injEq, decide_eq_true_eq, decide_eq_false_iff_not]; first | assumption | omega))) rfl ?_
          refine GL.val ((by exact rv_andT rfl rfl rfl)) rfl ?_
          refine GL.val (rv_move rfl) rfl ?_
          refine GL.valT rfl (rv_move rfl) rfl ?_
          refine GL.valT rfl ((by exact rv_to (v' := .bool false) (rv_neI rfl rfl) (by simp only [Value.bool.injEq, decide_eq_true_eq, decide_eq_false_iff_not]; first | assumption | omega))) rfl ?_
          refine GL.val ((by exact rv_andT rfl rfl rfl)) rfl ?_
          refine GL.nil ?_
          exact GX.cutq () trivial (by repeat (first | exact Sub.nil | refine Sub.cons rfl ?_)) (fun w9 h => by
              exact h)
        · rw [show okb (nm.data.toList.getD i 0).toNat = false from by unfold okb; exact decide_eq_false (by omega)]
          rw [show decide (97 ≤ (nm.data.toList.getD i 0).toNat ∧ (nm.data.toList.getD i 0).toNat ≤ 122) = false from decide_eq_false (by omega), show decide (48 ≤ (nm.data.toList.getD i 0).toNat ∧ (nm.data.toList.getD i 0).toNat ≤ 57) = false from decide_eq_false (by omega)]
          refine GC.reg ?_
          refine GL.val (rv_move rfl) rfl ?_
          refine GL.val (rv_not rfl) rfl ?_
          refine GL.val (rv_move rfl) rfl ?_
          refine GL.valT rfl (rv_move rfl) rfl ?_
          refine GL.valT rfl (rv_not rfl) rfl ?_
          refine GL.val ((by exact rv_andT rfl rfl rfl)) rfl ?_
          refine GL.val (rv_move rfl) rfl ?_
          refine GL.valT rfl (rv_move rfl) rfl ?_
          refine GL.valT rfl ((by exact rv_to (v' := .bool true) (rv_neI rfl rfl) (by simp only [Value.bool.injEq, decide_eq_true_eq, decide_eq_false_iff_not]; first | assumption | omega))) rfl ?_
          refine GL.val ((by exact rv_andT rfl rfl rfl)) rfl ?_
          refine GL.val (rv_move rfl) rfl ?_
          refine GL.valT rfl (rv_move rfl) rfl ?_
          refine GL.valT rfl ((by exact rv_to (v' := .bool true) (rv_neI rfl rfl) (by simp only [Value.bool.injEq, decide_eq_true_eq, decide_eq_false_iff_not]; first | assumption | omega))) rfl ?_
          refine GL.val ((by exact rv_andT rfl rfl rfl)) rfl ?_
          refine GL.nil ?_
          exact GX.cutq () trivial (by repeat (first | exact Sub.nil | refine Sub.cons rfl ?_)) (fun w9 h => by
              exact h)
      refine GX.then ?_
      refine GC.cond rfl (fun c49 => ?_) (fun c49 => ?_)
      · skip
        refine GC.seq ?_
        refine GC.reg ?_
        refine GL.val (rv_assign rfl) rfl ?_
        refine GL.nil ?_
        refine GX.then ?_
        refine GC.ret ?_
        refine GX.blk_ret ?_
        refine GX.then_ret ?_
        refine GX.then_ret ?_
        refine GX.blk_ret ?_
        refine GX.then_ret ?_
        refine GX.ret1 rfl (RR.tmp rfl) ?_
        exact fun w9 h => ⟨(), (by unfold okn; rw [allb_bad (i := i) (by rw [nm_len]; omega) (by simpa using c49), Bool.and_false]), by
            exact h, trivial⟩
      · skip
        refine GC.skip ?_
        refine GX.blk ?_
        refine GX.then ?_
        refine GC.reg ?_
        refine GL.val (rv_move rfl) rfl ?_
        refine GL.val (rv_add rfl rfl (by omega) (by omega)) rfl ?_
        refine GL.val (rv_assign rfl) rfl ?_
        refine GL.nil ?_
        exact GX.round (i + 1) (by omega) ⟨by omega, by rw [allb_step (by rw [nm_len]; omega) ha]; simpa using c49⟩ (by repeat (first | exact Sub.nil | refine Sub.cons rfl ?_)) (fun w9 h => by
            exact h)
    · obtain rfl : i = nm.size := by omega
      rw [List.take_of_length_le (by rw [nm_len]; omega)] at ha
      refine GC.exit ?_
      refine GX.then_exit ?_
      refine GX.then_exit ?_
      refine GX.blk_eq ?_
      refine GX.then ?_
      refine GC.seq ?_
      refine GC.reg ?_
      refine GL.val (rv_assign rfl) rfl ?_
      refine GL.nil ?_
      refine GX.then ?_
      refine GC.ret ?_
      refine GX.ret1 rfl (RR.tmp rfl) ?_
      exact fun w9 h => ⟨(), (by unfold okn; rw [ha, decide_eq_true hsz]; rfl), by
          exact h, trivial⟩
set_option maxRecDepth 100000 in
set_option maxHeartbeats 1000000 in
theorem check_c2 (nm : ByteArray) (key : Sh.B) (kA : Option Addr) (kc : Nat) (ser : UInt64) (w : World) (hs : nm.size < 4611686018427387904) : Calls Try.prog 42 [.agg (bcell nm key kA kc ser).toArray].toArray w fun e w' => ∃ _g : Unit, e = .returned (.int .i64 (chk nm key)) ∧ St noB w w' [] ∧ True := by
  refine GC.calls Try.func42 rfl rfl (St.begin _) ?_
  refine GC.seq ?_
  refine GC.reg ?_
  refine GL.step (ot_box rfl rfl rfl fun b1 => ?_)
  refine GL.val (rv_assign rfl) rfl ?_
  refine GL.nil ?_
  refine GX.then ?_
  refine GC.seq ?_
  refine GC.block ?_
  refine GC.seq ?_
  refine GC.reg ?_
  refine GL.val (rv_field fo_49_0 rfl rfl) rfl ?_
  refine GL.val (rv_load ag_9 rfl (by exact Hd.cell (k := 0) rfl rfl)) rfl ?_
  refine GL.step (ot_call hb_55 rfl (callOk fun w hh => name_c nm w hs) rfl fun _ _ => ?_)
  refine GL.val (rv_not rfl) rfl ?_
  refine GL.val (rv_assign rfl) rfl ?_
  refine GL.nil ?_
  refine GX.then ?_
  refine GC.cond rfl (fun c3 => ?_) (fun c3 => ?_)
  · have hn : okn nm = false := by simpa using c3
    refine GC.seq ?_
    refine GC.reg ?_
    refine GL.val (rv_assign rfl) rfl ?_
    refine GL.nil ?_
    refine GX.then ?_
    refine GC.ret ?_
    refine GX.blk_ret ?_
    refine GX.then_ret ?_
    refine GX.ret1 rfl (RR.tmp rfl) ?_
    exact fun w9 h => ⟨(), (by rw [chk_name hn]), by
        have h := h.sel [] rfl rfl
        exact h, trivial⟩
  · have hn : okn nm = true := by simpa using c3
    refine GC.seq ?_
    refine GC.cutq (γ := Unit) [] [0] (fun g Lk => (8, .bool (decide (key.length < 1 ∨ 64 < key.length))) :: Lk) (fun g Fk => Fk) (fun g => True) rfl rfl ?_ (fun _ _ => ?_)
    · rcases (by omega : (key.length < 1) ∨ (1 ≤ key.length ∧ key.length ≤ 64) ∨ (64 < key.length)) with h | h | h
      · rw [show decide (key.length < 1 ∨ 64 < key.length) = true from decide_eq_true (by omega)]
        refine GC.reg ?_
        refine GL.val (rv_field fo_49_1 rfl rfl) rfl ?_
        refine GL.val (rv_load ag_27 rfl (by exact Hd.cell (k := 0) rfl rfl)) rfl ?_
        refine GL.val (rv_lenSl Try.underlying27 rfl) rfl ?_
        refine GL.val ((by exact rv_to (v' := .bool true) (rv_eqI rfl rfl) (by simp only [Value.bool.injEq, decide_eq_true_eq, decide_eq_false_iff_not]; first | assumption | omega))) rfl ?_
        refine GL.val (rv_move rfl) rfl ?_
        refine GL.skipG rfl rfl ?_
        refine GL.skipG rfl rfl ?_
        refine GL.skipG rfl rfl ?_
        refine GL.skipG rfl rfl ?_
        refine GL.val ((by exact rv_orT rfl rfl rfl)) rfl ?_
        refine GL.val (rv_assign rfl) rfl ?_
        refine GL.nil ?_
        exact GX.cutq () trivial (by repeat (first | exact Sub.nil | refine Sub.cons rfl ?_)) (fun w9 h => by
            exact h)
      · rw [show decide (key.length < 1 ∨ 64 < key.length) = false from decide_eq_false (by omega)]
        refine GC.reg ?_
        refine GL.val (rv_field fo_49_1 rfl rfl) rfl ?_
        refine GL.val (rv_load ag_27 rfl (by exact Hd.cell (k := 0) rfl rfl)) rfl ?_
        refine GL.val (rv_lenSl Try.underlying27 rfl) rfl ?_
        refine GL.val ((by exact rv_to (v' := .bool false) (rv_eqI rfl rfl) (by simp only [Value.bool.injEq, decide_eq_true_eq, decide_eq_false_iff_not]; first | assumption | omega))) rfl ?_
        refine GL.val (rv_move rfl) rfl ?_
        refine GL.valT rfl (rv_field fo_49_1 rfl rfl) rfl ?_
        refine GL.valT rfl (rv_load ag_27 rfl (by exact Hd.cell (k := 0) rfl rfl)) rfl ?_
        refine GL.valT rfl (rv_lenSl Try.underlying27 rfl) rfl ?_
        refine GL.valT rfl ((by exact rv_to (v' := .bool false) (rv_gtr rfl rfl) (by simp only [Value.bool.injEq, decide_eq_true_eq, decide_eq_false_iff_not]; first | assumption | omega))) rfl ?_
        refine GL.val ((by exact rv_orF rfl rfl rfl)) rfl ?_
        refine GL.val (rv_assign rfl) rfl ?_
        refine GL.nil ?_
        exact GX.cutq () trivial (by repeat (first | exact Sub.nil | refine Sub.cons rfl ?_)) (fun w9 h => by
            exact h)
      · rw [show decide (key.length < 1 ∨ 64 < key.length) = true from decide_eq_true (by omega)]
        refine GC.reg ?_
        refine GL.val (rv_field fo_49_1 rfl rfl) rfl ?_
        refine GL.val (rv_load ag_27 rfl (by exact Hd.cell (k := 0) rfl rfl)) rfl ?_
        refine GL.val (rv_lenSl Try.underlying27 rfl) rfl ?_
        refine GL.val ((by exact rv_to (v' := .bool false) (rv_eqI rfl rfl) (by simp only [Value.bool.injEq, decide_eq_true_eq, decide_eq_false_iff_not]; first | assumption | omega))) rfl ?_
        refine GL.val (rv_move rfl) rfl ?_
        refine GL.valT rfl (rv_field fo_49_1 rfl rfl) rfl ?_
        refine GL.valT rfl (rv_load ag_27 rfl (by exact Hd.cell (k := 0) rfl rfl)) rfl ?_
        refine GL.valT rfl (rv_lenSl Try.underlying27 rfl) rfl ?_
        refine GL.valT rfl ((by exact rv_to (v' := .bool true) (rv_gtr rfl rfl) (by simp only [Value.bool.injEq, decide_eq_true_eq, decide_eq_false_iff_not]; first | assumption | omega))) rfl ?_
        refine GL.val ((by exact rv_orF rfl rfl rfl)) rfl ?_
        refine GL.val (rv_assign rfl) rfl ?_
        refine GL.nil ?_
        exact GX.cutq () trivial (by repeat (first | exact Sub.nil | refine Sub.cons rfl ?_)) (fun w9 h => by
            exact h)
    refine GX.then ?_
    refine GC.condP rfl (fun c8 => ?_) (fun c8 => ?_)
    · have hk := c8
      refine GC.seq ?_
      refine GC.reg ?_
      refine GL.val (rv_assign rfl) rfl ?_
      refine GL.nil ?_
      refine GX.then ?_
      refine GC.ret ?_
      refine GX.blk_ret ?_
      refine GX.then_ret ?_
      refine GX.ret1 rfl (RR.tmp rfl) ?_
      exact fun w9 h => ⟨(), (by rw [chk_key hn hk]), by
          have h := h.sel [] rfl rfl
          exact h, trivial⟩
    · have hk := c8
      refine GC.skip ?_
      refine GX.blk ?_
      refine GX.then ?_
      refine GC.seq ?_
      refine GC.reg ?_
      refine GL.val (rv_assign rfl) rfl ?_
      refine GL.nil ?_
      refine GX.then ?_
      refine GC.ret ?_
      refine GX.ret1 rfl (RR.tmp rfl) ?_
      exact fun w9 h => ⟨(), (by rw [chk_0 hn hk]), by
          have h := h.sel [] rfl rfl
          exact h, trivial⟩
set_option maxRecDepth 100000 in
set_option maxHeartbeats 1000000 in
theorem rcheck_c (nm : ByteArray) (A : Option Addr) (n c : Nat) (key : Sh.B) (w : World) (hs : nm.size < 4611686018427387904) (hl : key.length = n) : Calls Try.prog 27 [.string nm, .slice A n c].toArray w fun e w' => ∃ _g : Unit, e = .returned (.int .i64 (chk nm key)) ∧ St noB w w' [] ∧ True := by
  refine GC.calls Try.func27 rfl rfl (St.begin _) ?_
  subst hl
  refine GC.seq ?_
  refine GC.reg ?_
  refine GL.val (rv_assign rfl) rfl ?_
  refine GL.nil ?_
  refine GX.then ?_
  refine GC.seq ?_
  refine GC.seq ?_
  refine GC.reg ?_
  refine GL.val (rv_move rfl) rfl ?_
  refine GL.step (ot_call hb_21 rfl (callOk fun w hh => rname_c nm w hs) rfl fun _ _ => ?_)
  refine GL.val (rv_not rfl) rfl ?_
  refine GL.nil ?_
  refine GX.then ?_
  refine GC.cond rfl (fun c7 => ?_) (fun c7 => ?_)
  · have hn : okn nm = false := by simpa using c7
    refine GC.seq ?_
    refine GC.reg ?_
    refine GL.val (rv_assign rfl) rfl ?_
    refine GL.nil ?_
    refine GX.then ?_
    refine GC.ret ?_
    refine GX.then_ret ?_
    refine GX.ret1 rfl (RR.tmp rfl) ?_
    exact fun w9 h => ⟨(), (by rw [chk_name hn]), by
        exact h, trivial⟩
  · have hn : okn nm = true := by simpa using c7
    refine GC.skip ?_
    refine GX.then ?_
    refine GC.seq ?_
    refine GC.seq ?_
    refine GC.cutq (γ := Unit) [] [] (fun g Lk => (15, .bool (decide (key.length < 1 ∨ 64 < key.length))) :: Lk) (fun g Fk => Fk) (fun g => True) rfl rfl ?_ (fun _ _ => ?_)
    · rcases (by omega : (key.length < 1) ∨ (1 ≤ key.length ∧ key.length ≤ 64) ∨ (64 < key.length)) with h | h | h
      · rw [show decide (key.length < 1 ∨ 64 < key.length) = true from decide_eq_true (by omega)]
        refine GC.reg ?_
        refine GL.val (rv_move rfl) rfl ?_
        refine GL.val (rv_lenSl Try.underlying27 rfl) rfl ?_
        refine GL.val ((by exact rv_to (v' := .bool true) (rv_lss rfl rfl) (by simp only [Value.bool.injEq, decide_eq_true_eq, decide_eq_false_iff_not]; first | assumption | omega))) rfl ?_
        refine GL.val (rv_move rfl) rfl ?_
        refine GL.skipG rfl rfl ?_
        refine GL.skipG rfl rfl ?_
        refine GL.skipG rfl rfl ?_
        refine GL.val ((by exact rv_orT rfl rfl rfl)) rfl ?_
        refine GL.nil ?_
        exact GX.cutq () trivial (by repeat (first | exact Sub.nil | refine Sub.cons rfl ?_)) (fun w9 h => by
            exact h)
      · rw [show decide (key.length < 1 ∨ 64 < key.length) = false from decide_eq_false (by omega)]
        refine GC.reg ?_
        refine GL.val (rv_move rfl) rfl ?_
        refine GL.val (rv_lenSl Try.underlying27 rfl) rfl ?_
        refine GL.val ((by exact rv_to (v' := .bool false) (rv_lss rfl rfl) (by simp only [Value.bool.injEq, decide_eq_true_eq, decide_eq_false_iff_not]; first | assumption | omega))) rfl ?_
        refine GL.val (rv_move rfl) rfl ?_
        refine GL.valT rfl (rv_move rfl) rfl ?_
        refine GL.valT rfl (rv_lenSl Try.underlying27 rfl) rfl ?_
        refine GL.valT rfl ((by exact rv_to (v' := .bool false) (rv_gtr rfl rfl) (by simp only [Value.bool.injEq, decide_eq_true_eq, decide_eq_false_iff_not]; first | assumption | omega))) rfl ?_
        refine GL.val ((by exact rv_orF rfl rfl rfl)) rfl ?_
        refine GL.nil ?_
        exact GX.cutq () trivial (by repeat (first | exact Sub.nil | refine Sub.cons rfl ?_)) (fun w9 h => by
            exact h)
      · rw [show decide (key.length < 1 ∨ 64 < key.length) = true from decide_eq_true (by omega)]
        refine GC.reg ?_
        refine GL.val (rv_move rfl) rfl ?_
        refine GL.val (rv_lenSl Try.underlying27 rfl) rfl ?_
        refine GL.val ((by exact rv_to (v' := .bool false) (rv_lss rfl rfl) (by simp only [Value.bool.injEq, decide_eq_true_eq, decide_eq_false_iff_not]; first | assumption | omega))) rfl ?_
        refine GL.val (rv_move rfl) rfl ?_
        refine GL.valT rfl (rv_move rfl) rfl ?_
        refine GL.valT rfl (rv_lenSl Try.underlying27 rfl) rfl ?_
        refine GL.valT rfl ((by exact rv_to (v' := .bool true) (rv_gtr rfl rfl) (by simp only [Value.bool.injEq, decide_eq_true_eq, decide_eq_false_iff_not]; first | assumption | omega))) rfl ?_
        refine GL.val ((by exact rv_orF rfl rfl rfl)) rfl ?_
        refine GL.nil ?_
        exact GX.cutq () trivial (by repeat (first | exact Sub.nil | refine Sub.cons rfl ?_)) (fun w9 h => by
            exact h)
    refine GX.then ?_
    refine GC.condP rfl (fun c15 => ?_) (fun c15 => ?_)
    · have hk := c15
      refine GC.seq ?_
      refine GC.reg ?_
      refine GL.val (rv_assign rfl) rfl ?_
      refine GL.nil ?_
      refine GX.then ?_
      refine GC.ret ?_
      refine GX.then_ret ?_
      refine GX.ret1 rfl (RR.tmp rfl) ?_
      exact fun w9 h => ⟨(), (by rw [chk_key hn hk]), by
          exact h, trivial⟩
    · have hk := c15
      refine GC.skip ?_
      refine GX.then ?_
      refine GC.seq ?_
      refine GC.reg ?_
      refine GL.val (rv_assign rfl) rfl ?_
      refine GL.nil ?_
      refine GX.then ?_
      refine GC.ret ?_
      refine GX.ret1 rfl (RR.tmp rfl) ?_
      exact fun w9 h => ⟨(), (by rw [chk_0 hn hk]), by
          exact h, trivial⟩
set_option maxRecDepth 100000 in
set_option maxHeartbeats 1000000 in
theorem clone_b (A : Option Addr) (n c : Nat) (b : Sh.B) (w : World) (hR : SlR w A (byts b)) (hl : b.length = n) (hn : n ≤ 100000000) : Calls Try.prog 51 [.slice A n c].toArray w fun e w' => ∃ g : Option Addr × Nat, e = .returned (.slice g.1 n g.2) ∧ St noB w w' [roP g.1 (byts b)] ∧ n ≤ g.2 := by
  refine GC.calls Try.func51 rfl rfl (St.begin _) ?_
  subst hl
  have hA : A.isNone = true → b = [] := fun h => by
    rcases hR with h | ⟨b', o, rfl, _⟩
    · simpa [byts] using h
    · cases h
  refine GC.seq ?_
  refine GC.reg ?_
  refine GL.val (rv_assign rfl) rfl ?_
  refine GL.nil ?_
  refine GX.then ?_
  refine GC.seq ?_
  refine GC.seq ?_
  refine GC.reg ?_
  refine GL.val (rv_move rfl) rfl ?_
  refine GL.val (rv_slNil Try.underlying27 rfl rfl) rfl ?_
  refine GL.nil ?_
  refine GX.then ?_
  refine GC.cond rfl (fun c4 => ?_) (fun c4 => ?_)
  · obtain rfl : b = [] := hA c4
    refine GC.seq ?_
    refine GC.reg ?_
    refine GL.val (rv_assign rfl) rfl ?_
    refine GL.nil ?_
    refine GX.then ?_
    refine GC.ret ?_
    refine GX.then_ret ?_
    refine GX.ret1 rfl (RR.tmp rfl) ?_
    exact fun w9 h => ⟨(none, 0), rfl, by
        have h := (h.nilRow 5 1).rowRo (k := 0) rfl
        exact h, (Nat.le_refl _)⟩
  · skip
    refine GC.skip ?_
    refine GX.then ?_
    refine GC.seq ?_
    refine GC.reg ?_
    refine GL.step (ot_buildSlice ei_27 rfl rfl rfl rfl rfl rfl fun b5 => ?_)
    refine GL.st (Fs' := _) (fun w9 h => by
      have h := h.sel [0] rfl rfl
      have h := h.clRow (k := 0) (n' := 0) (sz := 1) rfl rfl (by omega)
      exact h) ?_
    refine GL.val (rv_move rfl) rfl ?_
    refine GL.step (ot_append (k := 0) (news := byts b) ei_27 rfl rfl rfl (by rw [byts_len]; omega) (fun w h => (h.rd0n hR).imp (fun e => by simpa [byts] using e) fun ⟨b, o, e1, e2⟩ => ⟨b, o, e1, e2⟩) (byts_one b) (by omega) (by decide) rfl fun A7 c7 z7 => ?_)
    rw [Nat.zero_add]
    refine GL.rowForm (k := 0) rfl fun _ hco _ => ?_
    refine GL.val (rv_assign rfl) rfl ?_
    refine GL.nil ?_
    refine GX.then ?_
    refine GC.ret ?_
    refine GX.ret1 rfl (RR.tmp rfl) ?_
    exact fun w9 h => ⟨(A7, c7), rfl, by
        have h := h.rowRo (k := 0) rfl
        exact h, hco⟩
end Go.Proofs.Ytkifeeiafachpaa
