import Derived.Test.YtkifeeiafachpaaJg
set_option linter.unusedVariables false
set_option linter.unusedSimpArgs false
namespace Go.Proofs.Ytkifeeiafachpaa
open Go Go.RowKit Go.Bz

set_option maxRecDepth 100000 in
set_option maxHeartbeats 1000000 in
theorem rck_c (d : DirZ) (w : World) (hD : Has w (dfx d)) (hok : dOk d) : Calls Try.prog 13 [.agg (dcell d).toArray].toArray w fun e w' => ∃ _g : Unit, e = .returned (.int .i64 (ckE (dpl d))) ∧ St noB w w' [] ∧ True := by
  refine GC.calls Try.func13 rfl rfl (St.begin _) ?_
  obtain ⟨hok1, hok2, hok3, hok4⟩ := id hok
  refine GC.seq ?_
  refine GC.reg ?_
  refine GL.step (ot_box rfl rfl rfl fun b1 => ?_)
  refine GL.val (rv_assign rfl) rfl ?_
  refine GL.nil ?_
  refine GX.then ?_
  refine GC.seq ?_
  refine GC.cutq (γ := Unit) [1] [0] (fun g Lk => (3, .int .i64 (d.1.2.length : Int)) :: Lk) (fun g Fk => Fk) (fun g => True) rfl rfl ?_ (fun _ _ => ?_)
  · refine GC.reg ?_
    refine GL.val (rv_field fo_26_0 rfl rfl) rfl ?_
    refine GL.val (rv_load ag_22 rfl (Hd.cell (k := 0) rfl rfl)) rfl ?_
    refine GL.val (rv_lenSl Try.underlying22 rfl) rfl ?_
    refine GL.val (rv_assign rfl) rfl ?_
    refine GL.nil ?_
    exact GX.cutq () trivial (by repeat (first | exact Sub.nil | refine Sub.cons rfl ?_)) (fun w9 h => by
        exact h)
  refine GX.then ?_
  refine GC.seq ?_
  refine GC.seq ?_
  refine GC.cutq (γ := Unit) [3, 1] [0] (fun g Lk => (36, .bool (decide (¬ headP (dpl d)))) :: Lk) (fun g Fk => Fk) (fun g => True) rfl rfl ?_ (fun _ _ => ?_)
  · rcases (by omega : (64 < d.1.2.length) ∨ (d.1.2.length ≤ 64 ∧ 16 < d.2.1.2.length) ∨ (d.1.2.length ≤ 64 ∧ d.2.1.2.length ≤ 16 ∧ d.2.2.toNat < 1) ∨ (d.1.2.length ≤ 64 ∧ d.2.1.2.length ≤ 16 ∧ 1 < d.2.2.toNat ∧ d.1.2.length < d.2.2.toNat) ∨ (d.1.2.length ≤ 64 ∧ d.2.1.2.length ≤ 16 ∧ 1 < d.2.2.toNat ∧ d.2.2.toNat ≤ d.1.2.length) ∨ (d.1.2.length ≤ 64 ∧ d.2.1.2.length ≤ 16 ∧ d.2.2.toNat = 1)) with h | h | h | h | h | h
    · rw [show decide (¬ headP (dpl d)) = true from decide_eq_true (fun k => by have := headP_iff.1 k; omega)]
      refine GC.reg ?_
      refine GL.val (rv_move rfl) rfl ?_
      refine GL.val ((by exact rv_to (v' := .bool true) (rv_gtr rfl rfl) (congrArg Value.bool (decide_eq_true (by omega))))) rfl ?_
      refine GL.val (rv_move rfl) rfl ?_
      refine GL.skipG rfl rfl ?_
      refine GL.skipG rfl rfl ?_
      refine GL.skipG rfl rfl ?_
      refine GL.skipG rfl rfl ?_
      refine GL.val ((by exact rv_orT rfl rfl rfl)) rfl ?_
      refine GL.val (rv_move rfl) rfl ?_
      refine GL.skipG rfl rfl ?_
      refine GL.skipG rfl rfl ?_
      refine GL.skipG rfl rfl ?_
      refine GL.val ((by exact rv_orT rfl rfl rfl)) rfl ?_
      refine GL.val (rv_move rfl) rfl ?_
      refine GL.skipG rfl rfl ?_
      refine GL.skipG rfl rfl ?_
      refine GL.skipG rfl rfl ?_
      refine GL.skipG rfl rfl ?_
      refine GL.skipU rfl rfl ?_
      refine GL.skipU rfl rfl ?_
      refine GL.skipU rfl rfl ?_
      refine GL.skipU rfl rfl ?_
      refine GL.skipU rfl rfl ?_
      refine GL.skipG rfl rfl ?_
      refine GL.val ((by exact rv_orT rfl rfl rfl)) rfl ?_
      refine GL.nil ?_
      exact GX.cutq () trivial (by repeat (first | exact Sub.nil | refine Sub.cons rfl ?_)) (fun w9 h => by
          exact h)
    · rw [show decide (¬ headP (dpl d)) = true from decide_eq_true (fun k => by have := headP_iff.1 k; omega)]
      refine GC.reg ?_
      refine GL.val (rv_move rfl) rfl ?_
      refine GL.val ((by exact rv_to (v' := .bool false) (rv_gtr rfl rfl) (congrArg Value.bool (decide_eq_false (by omega))))) rfl ?_
      refine GL.val (rv_move rfl) rfl ?_
      refine GL.valT rfl (rv_field fo_26_1 rfl rfl) rfl ?_
      refine GL.valT rfl (rv_load ag_23 rfl (Hd.cell (k := 0) rfl rfl)) rfl ?_
      refine GL.valT rfl (rv_lenSl Try.underlying23 rfl) rfl ?_
      refine GL.valT rfl ((by exact rv_to (v' := .bool true) (rv_gtr rfl rfl) (congrArg Value.bool (decide_eq_true (by omega))))) rfl ?_
      refine GL.val ((by exact rv_orF rfl rfl rfl)) rfl ?_
      refine GL.val (rv_move rfl) rfl ?_
      refine GL.skipG rfl rfl ?_
      refine GL.skipG rfl rfl ?_
      refine GL.skipG rfl rfl ?_
      refine GL.val ((by exact rv_orT rfl rfl rfl)) rfl ?_
      refine GL.val (rv_move rfl) rfl ?_
      refine GL.skipG rfl rfl ?_
      refine GL.skipG rfl rfl ?_
      refine GL.skipG rfl rfl ?_
      refine GL.skipG rfl rfl ?_
      refine GL.skipU rfl rfl ?_
      refine GL.skipU rfl rfl ?_
      refine GL.skipU rfl rfl ?_
      refine GL.skipU rfl rfl ?_
      refine GL.skipU rfl rfl ?_
      refine GL.skipG rfl rfl ?_
      refine GL.val ((by exact rv_orT rfl rfl rfl)) rfl ?_
      refine GL.nil ?_
      exact GX.cutq () trivial (by repeat (first | exact Sub.nil | refine Sub.cons rfl ?_)) (fun w9 h => by
          exact h)
    · rw [show decide (¬ headP (dpl d)) = true from decide_eq_true (fun k => by have := headP_iff.1 k; omega)]
      refine GC.reg ?_
      refine GL.val (rv_move rfl) rfl ?_
      refine GL.val ((by exact rv_to (v' := .bool false) (rv_gtr rfl rfl) (congrArg Value.bool (decide_eq_false (by omega))))) rfl ?_
      refine GL.val (rv_move rfl) rfl ?_
      refine GL.valT rfl (rv_field fo_26_1 rfl rfl) rfl ?_
      refine GL.valT rfl (rv_load ag_23 rfl (Hd.cell (k := 0) rfl rfl)) rfl ?_
      refine GL.valT rfl (rv_lenSl Try.underlying23 rfl) rfl ?_
      refine GL.valT rfl ((by exact rv_to (v' := .bool false) (rv_gtr rfl rfl) (congrArg Value.bool (decide_eq_false (by omega))))) rfl ?_
      refine GL.val ((by exact rv_orF rfl rfl rfl)) rfl ?_
      refine GL.val (rv_move rfl) rfl ?_
      refine GL.valT rfl (rv_field fo_26_2 rfl rfl) rfl ?_
      refine GL.valT rfl (rv_load ag_24 rfl (Hd.cell (k := 0) rfl rfl)) rfl ?_
      refine GL.valT rfl ((by exact rv_to (v' := .bool true) (rv_lss rfl rfl) (congrArg Value.bool (decide_eq_true (by omega))))) rfl ?_
      refine GL.val ((by exact rv_orF rfl rfl rfl)) rfl ?_
      refine GL.val (rv_move rfl) rfl ?_
      refine GL.skipG rfl rfl ?_
      refine GL.skipG rfl rfl ?_
      refine GL.skipG rfl rfl ?_
      refine GL.skipG rfl rfl ?_
      refine GL.skipU rfl rfl ?_
      refine GL.skipU rfl rfl ?_
      refine GL.skipU rfl rfl ?_
      refine GL.skipU rfl rfl ?_
      refine GL.skipU rfl rfl ?_
      refine GL.skipG rfl rfl ?_
      refine GL.val ((by exact rv_orT rfl rfl rfl)) rfl ?_
      refine GL.nil ?_
      exact GX.cutq () trivial (by repeat (first | exact Sub.nil | refine Sub.cons rfl ?_)) (fun w9 h => by
          exact h)
    · rw [show decide (¬ headP (dpl d)) = true from decide_eq_true (fun k => by have := headP_iff.1 k; omega)]
      refine GC.reg ?_
      refine GL.val (rv_move rfl) rfl ?_
      refine GL.val ((by exact rv_to (v' := .bool false) (rv_gtr rfl rfl) (congrArg Value.bool (decide_eq_false (by omega))))) rfl ?_
      refine GL.val (rv_move rfl) rfl ?_
      refine GL.valT rfl (rv_field fo_26_1 rfl rfl) rfl ?_
      refine GL.valT rfl (rv_load ag_23 rfl (Hd.cell (k := 0) rfl rfl)) rfl ?_
      refine GL.valT rfl (rv_lenSl Try.underlying23 rfl) rfl ?_
      refine GL.valT rfl ((by exact rv_to (v' := .bool false) (rv_gtr rfl rfl) (congrArg Value.bool (decide_eq_false (by omega))))) rfl ?_
      refine GL.val ((by exact rv_orF rfl rfl rfl)) rfl ?_
      refine GL.val (rv_move rfl) rfl ?_
      refine GL.valT rfl (rv_field fo_26_2 rfl rfl) rfl ?_
      refine GL.valT rfl (rv_load ag_24 rfl (Hd.cell (k := 0) rfl rfl)) rfl ?_
      refine GL.valT rfl ((by exact rv_to (v' := .bool false) (rv_lss rfl rfl) (congrArg Value.bool (decide_eq_false (by omega))))) rfl ?_
      refine GL.val ((by exact rv_orF rfl rfl rfl)) rfl ?_
      refine GL.val (rv_move rfl) rfl ?_
      refine GL.valT rfl (rv_field fo_26_2 rfl rfl) rfl ?_
      refine GL.valT rfl (rv_load ag_24 rfl (Hd.cell (k := 0) rfl rfl)) rfl ?_
      refine GL.valT rfl ((by exact rv_to (v' := .bool true) (rv_gtr rfl rfl) (congrArg Value.bool (decide_eq_true (by omega))))) rfl ?_
      refine GL.valT rfl (rv_move rfl) rfl ?_
      refine GL.valT rfl (rv_field fo_26_2 rfl rfl) rfl ?_
      refine GL.valT rfl (rv_load ag_24 rfl (Hd.cell (k := 0) rfl rfl)) rfl ?_
      refine GL.valT rfl (rv_move rfl) rfl ?_
      refine GL.valT rfl (rv_conv64I d.1.2.length Try.underlying3 Try.underlying24 rfl rfl) rfl ?_
      refine GL.valT rfl ((by exact rv_to (v' := .bool true) (rv_gtr rfl rfl) (congrArg Value.bool (decide_eq_true (by rw [ofNat_toNat64 (by omega)]; omega))))) rfl ?_
      refine GL.valT rfl ((by exact rv_andT rfl rfl rfl)) rfl ?_
      refine GL.val ((by exact rv_orF rfl rfl rfl)) rfl ?_
      refine GL.nil ?_
      exact GX.cutq () trivial (by repeat (first | exact Sub.nil | refine Sub.cons rfl ?_)) (fun w9 h => by
          exact h)
    · rw [show decide (¬ headP (dpl d)) = false from decide_eq_false (fun k => k (headP_iff.2 (by omega)))]
      refine GC.reg ?_
      refine GL.val (rv_move rfl) rfl ?_
      refine GL.val ((by exact rv_to (v' := .bool false) (rv_gtr rfl rfl) (congrArg Value.bool (decide_eq_false (by omega))))) rfl ?_
      refine GL.val (rv_move rfl) rfl ?_
      refine GL.valT rfl (rv_field fo_26_1 rfl rfl) rfl ?_
      refine GL.valT rfl (rv_load ag_23 rfl (Hd.cell (k := 0) rfl rfl)) rfl ?_
      refine GL.valT rfl (rv_lenSl Try.underlying23 rfl) rfl ?_
      refine GL.valT rfl ((by exact rv_to (v' := .bool false) (rv_gtr rfl rfl) (congrArg Value.bool (decide_eq_false (by omega))))) rfl ?_
      refine GL.val ((by exact rv_orF rfl rfl rfl)) rfl ?_
      refine GL.val (rv_move rfl) rfl ?_
      refine GL.valT rfl (rv_field fo_26_2 rfl rfl) rfl ?_
      refine GL.valT rfl (rv_load ag_24 rfl (Hd.cell (k := 0) rfl rfl)) rfl ?_
      refine GL.valT rfl ((by exact rv_to (v' := .bool false) (rv_lss rfl rfl) (congrArg Value.bool (decide_eq_false (by omega))))) rfl ?_
      refine GL.val ((by exact rv_orF rfl rfl rfl)) rfl ?_
      refine GL.val (rv_move rfl) rfl ?_
      refine GL.valT rfl (rv_field fo_26_2 rfl rfl) rfl ?_
      refine GL.valT rfl (rv_load ag_24 rfl (Hd.cell (k := 0) rfl rfl)) rfl ?_
      refine GL.valT rfl ((by exact rv_to (v' := .bool true) (rv_gtr rfl rfl) (congrArg Value.bool (decide_eq_true (by omega))))) rfl ?_
      refine GL.valT rfl (rv_move rfl) rfl ?_
      refine GL.valT rfl (rv_field fo_26_2 rfl rfl) rfl ?_
      refine GL.valT rfl (rv_load ag_24 rfl (Hd.cell (k := 0) rfl rfl)) rfl ?_
      refine GL.valT rfl (rv_move rfl) rfl ?_
      refine GL.valT rfl (rv_conv64I d.1.2.length Try.underlying3 Try.underlying24 rfl rfl) rfl ?_
      refine GL.valT rfl ((by exact rv_to (v' := .bool false) (rv_gtr rfl rfl) (congrArg Value.bool (decide_eq_false (by rw [ofNat_toNat64 (by omega)]; omega))))) rfl ?_
      refine GL.valT rfl ((by exact rv_andT rfl rfl rfl)) rfl ?_
      refine GL.val ((by exact rv_orF rfl rfl rfl)) rfl ?_
      refine GL.nil ?_
      exact GX.cutq () trivial (by repeat (first | exact Sub.nil | refine Sub.cons rfl ?_)) (fun w9 h => by
          exact h)
    · rw [show decide (¬ headP (dpl d)) = false from decide_eq_false (fun k => k (headP_iff.2 (by omega)))]
      refine GC.reg ?_
      refine GL.val (rv_move rfl) rfl ?_
      refine GL.val ((by exact rv_to (v' := .bool false) (rv_gtr rfl rfl) (congrArg Value.bool (decide_eq_false (by omega))))) rfl ?_
      refine GL.val (rv_move rfl) rfl ?_
      refine GL.valT rfl (rv_field fo_26_1 rfl rfl) rfl ?_
      refine GL.valT rfl (rv_load ag_23 rfl (Hd.cell (k := 0) rfl rfl)) rfl ?_
      refine GL.valT rfl (rv_lenSl Try.underlying23 rfl) rfl ?_
      refine GL.valT rfl ((by exact rv_to (v' := .bool false) (rv_gtr rfl rfl) (congrArg Value.bool (decide_eq_false (by omega))))) rfl ?_
      refine GL.val ((by exact rv_orF rfl rfl rfl)) rfl ?_
      refine GL.val (rv_move rfl) rfl ?_
      refine GL.valT rfl (rv_field fo_26_2 rfl rfl) rfl ?_
      refine GL.valT rfl (rv_load ag_24 rfl (Hd.cell (k := 0) rfl rfl)) rfl ?_
      refine GL.valT rfl ((by exact rv_to (v' := .bool false) (rv_lss rfl rfl) (congrArg Value.bool (decide_eq_false (by omega))))) rfl ?_
      refine GL.val ((by exact rv_orF rfl rfl rfl)) rfl ?_
      refine GL.val (rv_move rfl) rfl ?_
      refine GL.valT rfl (rv_field fo_26_2 rfl rfl) rfl ?_
      refine GL.valT rfl (rv_load ag_24 rfl (Hd.cell (k := 0) rfl rfl)) rfl ?_
      refine GL.valT rfl ((by exact rv_to (v' := .bool false) (rv_gtr rfl rfl) (congrArg Value.bool (decide_eq_false (by omega))))) rfl ?_
      refine GL.valT rfl (rv_move rfl) rfl ?_
      refine GL.skipG rfl rfl ?_
      refine GL.skipG rfl rfl ?_
      refine GL.skipG rfl rfl ?_
      refine GL.skipG rfl rfl ?_
      refine GL.skipG rfl rfl ?_
      refine GL.valT rfl ((by exact rv_andF rfl rfl rfl)) rfl ?_
      refine GL.val ((by exact rv_orF rfl rfl rfl)) rfl ?_
      refine GL.nil ?_
      exact GX.cutq () trivial (by repeat (first | exact Sub.nil | refine Sub.cons rfl ?_)) (fun w9 h => by
          exact h)
  refine GX.then ?_
  refine GC.condP rfl (fun c36 => ?_) (fun c36 => ?_)
  · skip
    refine GC.seq ?_
    refine GC.reg ?_
    refine GL.val (rv_assign rfl) rfl ?_
    refine GL.nil ?_
    refine GX.then ?_
    refine GC.ret ?_
    refine GX.then_ret ?_
    refine GX.ret1 rfl (RR.tmp rfl) ?_
    exact fun w9 h => ⟨(), (by rw [ck_no (fun h => c36 h.1)]), by
        have h := h.sel [] rfl rfl
        exact h, trivial⟩
  · have hhp : headP (dpl d) := Decidable.byContradiction c36
    refine GC.skip ?_
    refine GX.then ?_
    refine GC.seq ?_
    refine GC.seq ?_
    refine GC.reg ?_
    refine GL.val (rv_assign rfl) rfl ?_
    refine GL.nil ?_
    refine GX.then ?_
    refine GC.block ?_
    refine GC.loopK (γ := Nat) [3, 1] [0] (fun g Lk => (4, .int .i64 (g : Int)) :: Lk) (fun g Fk => Fk) (fun g => (g ≤ d.1.2.length) ∧ (∀ k (hk : k < d.1.2.length), k < g → rightL (epl d.1.2[k]))) (fun g => d.1.2.length - g) (0) rfl rfl ⟨Nat.zero_le _, fun k _ h => absurd h (Nat.not_lt_zero _)⟩ (by repeat (first | exact Sub.nil | refine Sub.cons rfl ?_)) (fun w9 h => by
        exact h) (fun j ⟨hi, h1⟩ => ?_)
    skip
    refine GC.seq ?_
    refine GC.seq ?_
    refine GC.reg ?_
    refine GL.val (rv_move rfl) rfl ?_
    refine GL.val (rv_move rfl) rfl ?_
    refine GL.val (rv_lss rfl rfl) rfl ?_
    refine GL.nil ?_
    refine GX.then ?_
    refine GC.condP rfl (fun c39 => ?_) (fun c39 => ?_)
    · have hlt : j < d.1.2.length := by omega
      have hem : d.1.2[j] ∈ d.1.2 := List.getElem_mem _
      obtain ⟨be, oe, hAe, hCe⟩ := slr_some (hD _ (dfx_e d)) (fcat_ne ec_len (by decide) hlt)
      replace hAe : d.1.1.1 = some ⟨be, oe, none⟩ := hAe
      replace hCe : Cells w be oe (fcat ecell d.1.2) := hCe
      refine GC.skip ?_
      refine GX.then ?_
      refine GC.seq ?_
      refine GC.block ?_
      refine GC.seq ?_
      refine GC.reg ?_
      refine GL.val (rv_field fo_26_0 rfl rfl) rfl ?_
      refine GL.val (rv_load ag_22 rfl (Hd.cell (k := 0) rfl rfl)) rfl ?_
      refine GL.val (rv_move rfl) rfl ?_
      refine GL.val (rv_elemJ (q := oe + (j) * 1) (j) es_22 (by rw [hAe]; rfl) rfl rfl hlt rfl) rfl ?_
      refine GL.val (rv_load ag_46 rfl (Hd.cell0 ((hCe.fcat ec_len (j) hlt) 0 _ rfl) (fun h => h))) rfl ?_
      refine GL.val (rv_assign rfl) rfl ?_
      refine GL.nil ?_
      refine GX.then ?_
      refine GC.seq ?_
      refine GC.seq ?_
      refine GC.reg ?_
      refine GL.val (rv_move rfl) rfl ?_
      refine GL.val (rv_lenSl Try.underlying46 rfl) rfl ?_
      refine GL.val (rv_gtr rfl rfl) rfl ?_
      refine GL.nil ?_
      refine GX.then ?_
      refine GC.condP rfl (fun c49 => ?_) (fun c49 => ?_)
      · have hri : ¬ rightL (epl d.1.2[j]) := fun k => by have := k.2.2; rw [show epl d.1.2[j] = d.1.2[j].2.map bpl from rfl, List.length_map] at this; omega
        refine GC.seq ?_
        refine GC.reg ?_
        refine GL.val (rv_assign rfl) rfl ?_
        refine GL.nil ?_
        refine GX.then ?_
        refine GC.ret ?_
        refine GX.then_ret ?_
        refine GX.blk_ret ?_
        refine GX.then_ret ?_
        refine GX.then_ret ?_
        refine GX.blk_ret ?_
        refine GX.then_ret ?_
        refine GX.ret1 rfl (RR.tmp rfl) ?_
        exact fun w9 h => ⟨(), (by rw [ck_no (fun h => hri (h.2.1 _ (List.mem_map_of_mem hem)))]), by
            have h := h.sel [] rfl rfl
            exact h, trivial⟩
      · have hle := hok1 _ hem
        have hRl : SlR w d.1.2[j].1.1 (fcat bzc d.1.2[j].2) := hD _ (dfx_ep hem _ (efx_hd _))
        refine GC.skip ?_
        refine GX.then ?_
        refine GC.seq ?_
        refine GC.reg ?_
        refine GL.val (rv_assign rfl) rfl ?_
        refine GL.nil ?_
        refine GX.then ?_
        refine GC.block ?_
        refine GC.loopK (γ := Nat) [5, 4, 3, 1] [0] (fun g Lk => (6, .int .i64 (g : Int)) :: Lk) (fun g Fk => Fk) (fun g => (g ≤ d.1.2[j].2.length) ∧ (∀ b ∈ (d.1.2[j].2.map bpl).take g, okB b) ∧ (sortP ((d.1.2[j].2.map bpl).take g))) (fun g => d.1.2[j].2.length - g) (0) rfl rfl ⟨Nat.zero_le _, (fun b h => by simp at h), List.Pairwise.nil⟩ (by repeat (first | exact Sub.nil | refine Sub.cons rfl ?_)) (fun w9 h => by
            exact h) (fun i ⟨hi2, g1, g2⟩ => ?_)
        skip
        refine GC.seq ?_
        refine GC.seq ?_
        refine GC.reg ?_
        refine GL.val (rv_move rfl) rfl ?_
        refine GL.val (rv_move rfl) rfl ?_
        refine GL.val (rv_lenSl Try.underlying46 rfl) rfl ?_
        refine GL.val (rv_lss rfl rfl) rfl ?_
        refine GL.nil ?_
        refine GX.then ?_
        refine GC.condP rfl (fun c53 => ?_) (fun c53 => ?_)
        · have hlt : i < d.1.2[j].2.length := by omega
          obtain ⟨b, o, hAb, hC⟩ := slr_some hRl (fcat_ne bz_len (by decide) hlt)
          refine GC.skip ?_
          refine GX.then ?_
          refine GC.seq ?_
          refine GC.block ?_
          refine GC.seq ?_
          refine GC.cutq (γ := Unit) [6, 5, 4, 3, 1] [0] (fun g Lk => (93, .bool (decide (¬ (okB (bpl d.1.2[j].2[i]) ∧ (0 < i → nlt (d.1.2[j].2[i - 1]'(by omega)).1 d.1.2[j].2[i].1))))) :: Lk) (fun g Fk => Fk) (fun g => True) rfl rfl ?_ (fun _ _ => ?_)
          · rcases (by by_cases h1 : chk d.1.2[j].2[i].1 d.1.2[j].2[i].2.1 = 0 <;> by_cases h2 : d.1.2[j].2[i].2.2.2 = 0 <;> by_cases h3 : 0 < i <;> simp [h1, h2, h3] : (¬ chk d.1.2[j].2[i].1 d.1.2[j].2[i].2.1 = 0) ∨ (chk d.1.2[j].2[i].1 d.1.2[j].2[i].2.1 = 0 ∧ d.1.2[j].2[i].2.2.2 = 0) ∨ (chk d.1.2[j].2[i].1 d.1.2[j].2[i].2.1 = 0 ∧ ¬ d.1.2[j].2[i].2.2.2 = 0 ∧ ¬ 0 < i) ∨ (chk d.1.2[j].2[i].1 d.1.2[j].2[i].2.1 = 0 ∧ ¬ d.1.2[j].2[i].2.2.2 = 0 ∧ 0 < i)) with h | h | h | h
            · rw [show decide (¬ (okB (bpl d.1.2[j].2[i]) ∧ (0 < i → nlt (d.1.2[j].2[i - 1]'(by omega)).1 d.1.2[j].2[i].1))) = true from decide_eq_true (fun q => h (okB_iff.1 q.1).1)]
              refine GC.draw 38 [0] mo_ ?_
              refine GD.pure1 (i := 0) rfl (fun _ _ => rv_move rfl) ?_
              refine GD.pure1 (i := 1) rfl (fun _ _ => rv_move rfl) ?_
              refine GD.pure1 (i := 2) rfl (fun _ _ => rv_elemJ (q := o + (i) * 3) (i) es_46 (by rw [hAb]; rfl) rfl rfl hlt rfl) ?_
              refine GD.pure1 (i := 3) rfl (fun _ _ => rv_field fo_49_0 rfl rfl) ?_
              refine GD.pure1 (i := 5) rfl (fun _ _ => rv_move rfl) ?_
              refine GD.pure1 (i := 6) rfl (fun _ _ => rv_move rfl) ?_
              refine GD.pure1 (i := 7) rfl (fun _ _ => rv_elemJ (q := o + (i) * 3) (i) es_46 (by rw [hAb]; rfl) rfl rfl hlt rfl) ?_
              refine GD.pure1 (i := 8) rfl (fun _ _ => rv_field fo_49_1 rfl rfl) ?_
              refine GD.read1 (i := 4) rfl (rv_load ag_9 rfl (Hd.cell0 ((hC.fcat bz_len (i) hlt) 0 _ rfl) (fun h => h))) ?_
              refine GD.step (i := 9) (by kernel_rfl) rfl (ot_val (rv_load ag_27 rfl (Hd.cell0 ((hC.fcat bz_len i hlt) 1 _ rfl) (fun h => h))) rfl ⟨.inr fun _ h => h.pk [0], ?_⟩)
              refine GD.step (i := 10) (by kernel_rfl) rfl (ot_call hb_27 rfl (callOk fun w hh => rcheck_c d.1.2[j].2[i].1 _ _ _ d.1.2[j].2[i].2.1 w (hle.1 _ (List.getElem_mem hlt)).1 rfl) rfl fun _ _ => ⟨.inr fun _ h => h.pk [0], ?_⟩)
              refine GD.pure1 (i := 11) rfl (fun _ _ => (by exact rv_to (v' := .bool true) (rv_neI rfl rfl) (by simp only [Value.bool.injEq, decide_eq_true_eq, decide_eq_false_iff_not]; first | assumption | omega))) ?_
              refine GD.pure1 (i := 12) rfl (fun _ _ => rv_move rfl) ?_
              refine GD.skipG1 (i := 13) rfl rfl ?_
              refine GD.skipG1 (i := 14) rfl rfl ?_
              refine GD.skipG1 (i := 15) rfl rfl ?_
              refine GD.skipG1 (i := 16) rfl rfl ?_
              refine GD.skipG1 (i := 17) rfl rfl ?_
              refine GD.skipG1 (i := 18) rfl rfl ?_
              refine GD.pure1 (i := 19) rfl (fun _ _ => (by exact rv_orT rfl rfl rfl)) ?_
              refine GD.pure1 (i := 20) rfl (fun _ _ => rv_move rfl) ?_
              refine GD.skipG1 (i := 21) rfl rfl ?_
              refine GD.skipG1 (i := 22) rfl rfl ?_
              refine GD.skipG1 (i := 23) rfl rfl ?_
              refine GD.skipU1 (i := 24) rfl rfl ?_
              refine GD.skipU1 (i := 25) rfl rfl ?_
              refine GD.skipU1 (i := 26) rfl rfl ?_
              refine GD.skipU1 (i := 27) rfl rfl ?_
              refine GD.skipU1 (i := 29) rfl rfl ?_
              refine GD.skipU1 (i := 30) rfl rfl ?_
              refine GD.skipU1 (i := 31) rfl rfl ?_
              refine GD.skipU1 (i := 32) rfl rfl ?_
              refine GD.skipU1 (i := 33) rfl rfl ?_
              refine GD.skipU1 (i := 28) rfl rfl ?_
              refine GD.skipU1 (i := 34) rfl rfl ?_
              refine GD.skipU1 (i := 35) rfl rfl ?_
              refine GD.skipG1 (i := 36) rfl rfl ?_
              refine GD.pure1 (i := 37) rfl (fun _ _ => (by exact rv_orT rfl rfl rfl)) ?_
              refine GD.done (by kernel_rfl) ?_
              exact GX.cutq () trivial (by repeat (first | exact Sub.nil | refine Sub.cons rfl ?_)) (fun w9 h => by
                  exact h)
            · obtain ⟨h1, h2⟩ := h
              rw [show decide (¬ (okB (bpl d.1.2[j].2[i]) ∧ (0 < i → nlt (d.1.2[j].2[i - 1]'(by omega)).1 d.1.2[j].2[i].1))) = true from decide_eq_true (fun q => (okB_iff.1 q.1).2 h2)]
              refine GC.draw 38 [0] mo_ ?_
              refine GD.pure1 (i := 0) rfl (fun _ _ => rv_move rfl) ?_
              refine GD.pure1 (i := 1) rfl (fun _ _ => rv_move rfl) ?_
              refine GD.pure1 (i := 2) rfl (fun _ _ => rv_elemJ (q := o + (i) * 3) (i) es_46 (by rw [hAb]; rfl) rfl rfl hlt rfl) ?_
              refine GD.pure1 (i := 3) rfl (fun _ _ => rv_field fo_49_0 rfl rfl) ?_
              refine GD.pure1 (i := 5) rfl (fun _ _ => rv_move rfl) ?_
              refine GD.pure1 (i := 6) rfl (fun _ _ => rv_move rfl) ?_
              refine GD.pure1 (i := 7) rfl (fun _ _ => rv_elemJ (q := o + (i) * 3) (i) es_46 (by rw [hAb]; rfl) rfl rfl hlt rfl) ?_
              refine GD.pure1 (i := 8) rfl (fun _ _ => rv_field fo_49_1 rfl rfl) ?_
              refine GD.read1 (i := 4) rfl (rv_load ag_9 rfl (Hd.cell0 ((hC.fcat bz_len (i) hlt) 0 _ rfl) (fun h => h))) ?_
              refine GD.step (i := 9) (by kernel_rfl) rfl (ot_val (rv_load ag_27 rfl (Hd.cell0 ((hC.fcat bz_len i hlt) 1 _ rfl) (fun h => h))) rfl ⟨.inr fun _ h => h.pk [0], ?_⟩)
              refine GD.step (i := 10) (by kernel_rfl) rfl (ot_call hb_27 rfl (callOk fun w hh => rcheck_c d.1.2[j].2[i].1 _ _ _ d.1.2[j].2[i].2.1 w (hle.1 _ (List.getElem_mem hlt)).1 rfl) rfl fun _ _ => ⟨.inr fun _ h => h.pk [0], ?_⟩)
              refine GD.pure1 (i := 11) rfl (fun _ _ => (by exact rv_to (v' := .bool false) (rv_neI rfl rfl) (by simp only [Value.bool.injEq, decide_eq_true_eq, decide_eq_false_iff_not]; first | assumption | omega))) ?_
              refine GD.pure1 (i := 12) rfl (fun _ _ => rv_move rfl) ?_
              refine GD.pureG1 (i := 13) rfl rfl (fun _ _ => rv_move rfl) ?_
              refine GD.pureG1 (i := 14) rfl rfl (fun _ _ => rv_move rfl) ?_
              refine GD.pureG1 (i := 15) rfl rfl (fun _ _ => rv_elemJ (q := o + (i) * 3) (i) es_46 (by rw [hAb]; rfl) rfl rfl hlt rfl) ?_
              refine GD.pureG1 (i := 16) rfl rfl (fun _ _ => rv_field fo_49_2 rfl rfl) ?_
              refine GD.stepG (i := 17) (by kernel_rfl) rfl rfl (ot_val (rv_load ag_24 rfl (Hd.cell0 ((hC.fcat bz_len i hlt) 2 _ rfl) (fun h => h))) rfl ⟨.inr fun _ h => h.pk [0], ?_⟩)
              refine GD.pureG1 (i := 18) rfl rfl (fun _ _ => (by exact rv_to (v' := .bool true) (rv_eq64 (b := 0) rfl rfl) (by simp only [Value.bool.injEq, decide_eq_true_eq, decide_eq_false_iff_not]; first | assumption | omega))) ?_
              refine GD.pure1 (i := 19) rfl (fun _ _ => (by exact rv_orF rfl rfl rfl)) ?_
              refine GD.pure1 (i := 20) rfl (fun _ _ => rv_move rfl) ?_
              refine GD.skipG1 (i := 21) rfl rfl ?_
              refine GD.skipG1 (i := 22) rfl rfl ?_
              refine GD.skipG1 (i := 23) rfl rfl ?_
              refine GD.skipU1 (i := 24) rfl rfl ?_
              refine GD.skipU1 (i := 25) rfl rfl ?_
              refine GD.skipU1 (i := 26) rfl rfl ?_
              refine GD.skipU1 (i := 27) rfl rfl ?_
              refine GD.skipU1 (i := 29) rfl rfl ?_
              refine GD.skipU1 (i := 30) rfl rfl ?_
              refine GD.skipU1 (i := 31) rfl rfl ?_
              refine GD.skipU1 (i := 32) rfl rfl ?_
              refine GD.skipU1 (i := 33) rfl rfl ?_
              refine GD.skipU1 (i := 28) rfl rfl ?_
              refine GD.skipU1 (i := 34) rfl rfl ?_
              refine GD.skipU1 (i := 35) rfl rfl ?_
              refine GD.skipG1 (i := 36) rfl rfl ?_
              refine GD.pure1 (i := 37) rfl (fun _ _ => (by exact rv_orT rfl rfl rfl)) ?_
              refine GD.done (by kernel_rfl) ?_
              exact GX.cutq () trivial (by repeat (first | exact Sub.nil | refine Sub.cons rfl ?_)) (fun w9 h => by
                  exact h)
            · obtain ⟨h1, h2, h3⟩ := h
              rw [show decide (¬ (okB (bpl d.1.2[j].2[i]) ∧ (0 < i → nlt (d.1.2[j].2[i - 1]'(by omega)).1 d.1.2[j].2[i].1))) = false from decide_eq_false (fun q => q ⟨okB_iff.2 ⟨h1, h2⟩, fun h => absurd h h3⟩)]
              refine GC.draw 38 [0] mo_ ?_
              refine GD.pure1 (i := 0) rfl (fun _ _ => rv_move rfl) ?_
              refine GD.pure1 (i := 1) rfl (fun _ _ => rv_move rfl) ?_
              refine GD.pure1 (i := 2) rfl (fun _ _ => rv_elemJ (q := o + (i) * 3) (i) es_46 (by rw [hAb]; rfl) rfl rfl hlt rfl) ?_
              refine GD.pure1 (i := 3) rfl (fun _ _ => rv_field fo_49_0 rfl rfl) ?_
              refine GD.pure1 (i := 5) rfl (fun _ _ => rv_move rfl) ?_
              refine GD.pure1 (i := 6) rfl (fun _ _ => rv_move rfl) ?_
              refine GD.pure1 (i := 7) rfl (fun _ _ => rv_elemJ (q := o + (i) * 3) (i) es_46 (by rw [hAb]; rfl) rfl rfl hlt rfl) ?_
              refine GD.pure1 (i := 8) rfl (fun _ _ => rv_field fo_49_1 rfl rfl) ?_
              refine GD.read1 (i := 4) rfl (rv_load ag_9 rfl (Hd.cell0 ((hC.fcat bz_len (i) hlt) 0 _ rfl) (fun h => h))) ?_
              refine GD.step (i := 9) (by kernel_rfl) rfl (ot_val (rv_load ag_27 rfl (Hd.cell0 ((hC.fcat bz_len i hlt) 1 _ rfl) (fun h => h))) rfl ⟨.inr fun _ h => h.pk [0], ?_⟩)
              refine GD.step (i := 10) (by kernel_rfl) rfl (ot_call hb_27 rfl (callOk fun w hh => rcheck_c d.1.2[j].2[i].1 _ _ _ d.1.2[j].2[i].2.1 w (hle.1 _ (List.getElem_mem hlt)).1 rfl) rfl fun _ _ => ⟨.inr fun _ h => h.pk [0], ?_⟩)
              refine GD.pure1 (i := 11) rfl (fun _ _ => (by exact rv_to (v' := .bool false) (rv_neI rfl rfl) (by simp only [Value.bool.injEq, decide_eq_true_eq, decide_eq_false_iff_not]; first | assumption | omega))) ?_
              refine GD.pure1 (i := 12) rfl (fun _ _ => rv_move rfl) ?_
              refine GD.pureG1 (i := 13) rfl rfl (fun _ _ => rv_move rfl) ?_
              refine GD.pureG1 (i := 14) rfl rfl (fun _ _ => rv_move rfl) ?_
              refine GD.pureG1 (i := 15) rfl rfl (fun _ _ => rv_elemJ (q := o + (i) * 3) (i) es_46 (by rw [hAb]; rfl) rfl rfl hlt rfl) ?_
              refine GD.pureG1 (i := 16) rfl rfl (fun _ _ => rv_field fo_49_2 rfl rfl) ?_
              refine GD.stepG (i := 17) (by kernel_rfl) rfl rfl (ot_val (rv_load ag_24 rfl (Hd.cell0 ((hC.fcat bz_len i hlt) 2 _ rfl) (fun h => h))) rfl ⟨.inr fun _ h => h.pk [0], ?_⟩)
              refine GD.pureG1 (i := 18) rfl rfl (fun _ _ => (by exact rv_to (v' := .bool false) (rv_eq64 (b := 0) rfl rfl) (by simp only [Value.bool.injEq, decide_eq_true_eq, decide_eq_false_iff_not]; first | assumption | omega))) ?_
              refine GD.pure1 (i := 19) rfl (fun _ _ => (by exact rv_orF rfl rfl rfl)) ?_
              refine GD.pure1 (i := 20) rfl (fun _ _ => rv_move rfl) ?_
              refine GD.pureG1 (i := 21) rfl rfl (fun _ _ => rv_move rfl) ?_
              refine GD.pureG1 (i := 22) rfl rfl (fun _ _ => (by exact rv_to (v' := .bool false) (rv_gtr rfl rfl) (by simp only [Value.bool.injEq, decide_eq_true_eq, decide_eq_false_iff_not]; first | assumption | omega))) ?_
              refine GD.pureG1 (i := 23) rfl rfl (fun _ _ => rv_move rfl) ?_
              refine GD.skipG1 (i := 24) rfl rfl ?_
              refine GD.skipG1 (i := 25) rfl rfl ?_
              refine GD.skipG1 (i := 26) rfl rfl ?_
              refine GD.skipG1 (i := 27) rfl rfl ?_
              refine GD.skipG1 (i := 29) rfl rfl ?_
              refine GD.skipG1 (i := 30) rfl rfl ?_
              refine GD.skipG1 (i := 31) rfl rfl ?_
              refine GD.skipG1 (i := 32) rfl rfl ?_
              refine GD.skipG1 (i := 33) rfl rfl ?_
              refine GD.skipG1 (i := 28) rfl rfl ?_
              refine GD.skipG1 (i := 34) rfl rfl ?_
              refine GD.skipG1 (i := 35) rfl rfl ?_
              refine GD.pureG1 (i := 36) rfl rfl (fun _ _ => (by exact rv_andF rfl rfl rfl)) ?_
              refine GD.pure1 (i := 37) rfl (fun _ _ => (by exact rv_orF rfl rfl rfl)) ?_
              refine GD.done (by kernel_rfl) ?_
              exact GX.cutq () trivial (by repeat (first | exact Sub.nil | refine Sub.cons rfl ?_)) (fun w9 h => by
                  exact h)
            · obtain ⟨h1, h2, h3⟩ := h
              have hlt1 : i - 1 < d.1.2[j].2.length := by omega
              rw [show decide (¬ (okB (bpl d.1.2[j].2[i]) ∧ (0 < i → nlt (d.1.2[j].2[i - 1]'(by omega)).1 d.1.2[j].2[i].1))) = decide (¬ nlt d.1.2[j].2[i - 1].1 d.1.2[j].2[i].1) from decide_eq_decide.2 (not_congr ⟨fun q => q.2 h3, fun q => ⟨okB_iff.2 ⟨h1, h2⟩, fun _ => q⟩⟩)]
              refine GC.draw 38 [0] mo_ ?_
              refine GD.pure1 (i := 0) rfl (fun _ _ => rv_move rfl) ?_
              refine GD.pure1 (i := 1) rfl (fun _ _ => rv_move rfl) ?_
              refine GD.pure1 (i := 2) rfl (fun _ _ => rv_elemJ (q := o + (i) * 3) (i) es_46 (by rw [hAb]; rfl) rfl rfl hlt rfl) ?_
              refine GD.pure1 (i := 3) rfl (fun _ _ => rv_field fo_49_0 rfl rfl) ?_
              refine GD.pure1 (i := 5) rfl (fun _ _ => rv_move rfl) ?_
              refine GD.pure1 (i := 6) rfl (fun _ _ => rv_move rfl) ?_
              refine GD.pure1 (i := 7) rfl (fun _ _ => rv_elemJ (q := o + (i) * 3) (i) es_46 (by rw [hAb]; rfl) rfl rfl hlt rfl) ?_
              refine GD.pure1 (i := 8) rfl (fun _ _ => rv_field fo_49_1 rfl rfl) ?_
              refine GD.read1 (i := 4) rfl (rv_load ag_9 rfl (Hd.cell0 ((hC.fcat bz_len (i) hlt) 0 _ rfl) (fun h => h))) ?_
              refine GD.step (i := 9) (by kernel_rfl) rfl (ot_val (rv_load ag_27 rfl (Hd.cell0 ((hC.fcat bz_len i hlt) 1 _ rfl) (fun h => h))) rfl ⟨.inr fun _ h => h.pk [0], ?_⟩)
              refine GD.step (i := 10) (by kernel_rfl) rfl (ot_call hb_27 rfl (callOk fun w hh => rcheck_c d.1.2[j].2[i].1 _ _ _ d.1.2[j].2[i].2.1 w (hle.1 _ (List.getElem_mem hlt)).1 rfl) rfl fun _ _ => ⟨.inr fun _ h => h.pk [0], ?_⟩)
              refine GD.pure1 (i := 11) rfl (fun _ _ => (by exact rv_to (v' := .bool false) (rv_neI rfl rfl) (by simp only [Value.bool.injEq, decide_eq_true_eq, decide_eq_false_iff_not]; first | assumption | omega))) ?_
              refine GD.pure1 (i := 12) rfl (fun _ _ => rv_move rfl) ?_
              refine GD.pureG1 (i := 13) rfl rfl (fun _ _ => rv_move rfl) ?_
              refine GD.pureG1 (i := 14) rfl rfl (fun _ _ => rv_move rfl) ?_
              refine GD.pureG1 (i := 15) rfl rfl (fun _ _ => rv_elemJ (q := o + (i) * 3) (i) es_46 (by rw [hAb]; rfl) rfl rfl hlt rfl) ?_
              refine GD.pureG1 (i := 16) rfl rfl (fun _ _ => rv_field fo_49_2 rfl rfl) ?_
              refine GD.stepG (i := 17) (by kernel_rfl) rfl rfl (ot_val (rv_load ag_24 rfl (Hd.cell0 ((hC.fcat bz_len i hlt) 2 _ rfl) (fun h => h))) rfl ⟨.inr fun _ h => h.pk [0], ?_⟩)
              refine GD.pureG1 (i := 18) rfl rfl (fun _ _ => (by exact rv_to (v' := .bool false) (rv_eq64 (b := 0) rfl rfl) (by simp only [Value.bool.injEq, decide_eq_true_eq, decide_eq_false_iff_not]; first | assumption | omega))) ?_
              refine GD.pure1 (i := 19) rfl (fun _ _ => (by exact rv_orF rfl rfl rfl)) ?_
              refine GD.pure1 (i := 20) rfl (fun _ _ => rv_move rfl) ?_
              refine GD.pureG1 (i := 21) rfl rfl (fun _ _ => rv_move rfl) ?_
              refine GD.pureG1 (i := 22) rfl rfl (fun _ _ => (by exact rv_to (v' := .bool true) (rv_gtr rfl rfl) (by simp only [Value.bool.injEq, decide_eq_true_eq, decide_eq_false_iff_not]; first | assumption | omega))) ?_
              refine GD.pureG1 (i := 23) rfl rfl (fun _ _ => rv_move rfl) ?_
              refine GD.pureG1 (i := 24) rfl rfl (fun _ _ => rv_move rfl) ?_
              refine GD.pureG1 (i := 25) rfl rfl (fun _ _ => rv_move rfl) ?_
              refine GD.pureG1 (i := 26) rfl rfl (fun _ _ => rv_elemJ (q := o + (i) * 3) (i) es_46 (by rw [hAb]; rfl) rfl rfl hlt rfl) ?_
              refine GD.pureG1 (i := 27) rfl rfl (fun _ _ => rv_field fo_49_0 rfl rfl) ?_
              refine GD.pureG1 (i := 29) rfl rfl (fun _ _ => rv_move rfl) ?_
              refine GD.pureG1 (i := 30) rfl rfl (fun _ _ => rv_move rfl) ?_
              refine GD.pureG1 (i := 31) rfl rfl (fun _ _ => rv_to (v' := .int .i64 ((i - 1 : Nat) : Int)) (rv_sub rfl rfl (by omega) (by omega)) (congrArg (Value.int .i64) (by omega))) ?_
              refine GD.pureG1 (i := 32) rfl rfl (fun _ _ => rv_elemJ (q := o + (i - 1) * 3) (i - 1) es_46 (by rw [hAb]; rfl) rfl rfl hlt1 rfl) ?_
              refine GD.pureG1 (i := 33) rfl rfl (fun _ _ => rv_field fo_49_0 rfl rfl) ?_
              refine GD.readG1 (i := 28) rfl rfl (rv_load ag_9 rfl (Hd.cell0 ((hC.fcat bz_len (i) hlt) 0 _ rfl) (fun h => h))) ?_
              refine GD.stepG (i := 34) (by kernel_rfl) rfl rfl (ot_val (rv_load ag_9 rfl (Hd.cell0 ((hC.fcat bz_len (i - 1) hlt1) 0 _ rfl) (fun h => h))) rfl ⟨.inr fun _ h => h.pk [0], ?_⟩)
              refine GD.pureG1 (i := 35) rfl rfl (fun _ _ => rv_leqS rfl rfl) ?_
              refine GD.pureG1 (i := 36) rfl rfl (fun _ _ => (by exact rv_andT rfl rfl rfl)) ?_
              refine GD.pure1 (i := 37) rfl (fun _ _ => (by exact rv_orF rfl rfl rfl)) ?_
              refine GD.done (by kernel_rfl) ?_
              exact GX.cutq () trivial (by repeat (first | exact Sub.nil | refine Sub.cons rfl ?_)) (fun w9 h => by
                  exact h)
          refine GX.then ?_
          refine GC.condP rfl (fun c93 => ?_) (fun c93 => ?_)
          · have hpr := not_right hlt c93
            refine GC.seq ?_
            refine GC.reg ?_
            refine GL.val (rv_assign rfl) rfl ?_
            refine GL.nil ?_
            refine GX.then ?_
            refine GC.ret ?_
            refine GX.blk_ret ?_
            refine GX.then_ret ?_
            refine GX.then_ret ?_
            refine GX.blk_ret ?_
            refine GX.blk_ret ?_
            refine GX.then_ret ?_
            refine GX.then_ret ?_
            refine GX.blk_ret ?_
            refine GX.then_ret ?_
            refine GX.ret1 rfl (RR.tmp rfl) ?_
            exact fun w9 h => ⟨(), (by rw [ck_no (fun h => hpr (h.2.1 _ (List.mem_map_of_mem hem)))]), by
                have h := h.sel [] rfl rfl
                exact h, trivial⟩
          · have hpr : (okB (bpl d.1.2[j].2[i]) ∧ (0 < i → nlt (d.1.2[j].2[i - 1]'(by omega)).1 d.1.2[j].2[i].1)) := Decidable.byContradiction c93
            refine GC.skip ?_
            refine GX.blk ?_
            refine GX.then ?_
            refine GC.reg ?_
            refine GL.val (rv_move rfl) rfl ?_
            refine GL.val (rv_add rfl rfl (by omega) (by omega)) rfl ?_
            refine GL.val (rv_assign rfl) rfl ?_
            refine GL.nil ?_
            exact GX.round (i + 1) (by omega) ⟨by omega, right_take hlt g1 g2 hpr.1 hpr.2⟩ (by repeat (first | exact Sub.nil | refine Sub.cons rfl ?_)) (fun w9 h => by
                exact h)
        · obtain rfl : i = d.1.2[j].2.length := by omega
          rw [List.take_of_length_le (by rw [List.length_map]; omega)] at g1 g2
          refine GC.exit ?_
          refine GX.then_exit ?_
          refine GX.then_exit ?_
          refine GX.blk_eq ?_
          refine GX.blk ?_
          refine GX.then ?_
          refine GC.reg ?_
          refine GL.val (rv_move rfl) rfl ?_
          refine GL.val (rv_add rfl rfl (by omega) (by omega)) rfl ?_
          refine GL.val (rv_assign rfl) rfl ?_
          refine GL.nil ?_
          have hri : rightL (epl d.1.2[j]) := ⟨g1, g2, by rw [show epl d.1.2[j] = d.1.2[j].2.map bpl from rfl, List.length_map]; omega⟩
          exact GX.round (j + 1) (by omega) ⟨by omega, fun k hk hki => by rcases Nat.lt_or_ge k j with h | h; exact h1 k hk h; obtain rfl : k = j := (by omega); exact hri⟩ (by repeat (first | exact Sub.nil | refine Sub.cons rfl ?_)) (fun w9 h => by
              exact h)
    · have hrt : ∀ e ∈ d.1.2, rightL (epl e) := fun e he => by
        obtain ⟨k, hk, rfl⟩ := List.mem_iff_getElem.1 he
        exact h1 k hk (by omega)
      have hrt2 : ∀ l ∈ (dpl d).1, rightL l := fun l hl => by
        obtain ⟨e, he, rfl⟩ := List.mem_map.1 hl
        exact hrt e he
      refine GC.exit ?_
      refine GX.then_exit ?_
      refine GX.then_exit ?_
      refine GX.blk_eq ?_
      refine GX.then ?_
      refine GC.seq ?_
      refine GC.seq ?_
      refine GC.reg ?_
      refine GL.val (rv_loadA ag_26 rfl (Hd.cells (k := 0) rfl (us := dcell d) rfl) (by exact sz_26)) rfl ?_
      refine GL.step (ot_call hb_28 rfl (callOk fun w hh => now_c d w (hD.lift hh) hok hrt) rfl fun g96 _ => ?_)
      refine GL.val (rv_move rfl) rfl ?_
      refine GL.val (rv_extract rfl rfl) rfl ?_
      refine GL.val (rv_extract rfl rfl) rfl ?_
      refine GL.val (rv_assign rfl) rfl ?_
      refine GL.val (rv_assign rfl) rfl ?_
      refine GL.nil ?_
      refine GX.then ?_
      refine GC.seq ?_
      refine GC.reg ?_
      refine GL.val (rv_move rfl) rfl ?_
      refine GL.val (rv_not rfl) rfl ?_
      refine GL.nil ?_
      refine GX.then ?_
      refine GC.cond rfl (fun c100 => ?_) (fun c100 => ?_)
      · have h0 : ¬ (wt (lastL (dpl d).1) (dpl d).2.1).1 = 0 := by simpa using c100
        refine GC.seq ?_
        refine GC.reg ?_
        refine GL.val (rv_assign rfl) rfl ?_
        refine GL.nil ?_
        refine GX.then ?_
        refine GC.ret ?_
        refine GX.then_ret ?_
        refine GX.ret1 rfl (RR.tmp rfl) ?_
        exact fun w9 h => ⟨(), (by rw [ck_no (fun h => h0 h.2.2)]), by
            have h := h.sel [] rfl rfl
            exact h, trivial⟩
      · have h0 : (wt (lastL (dpl d).1) (dpl d).2.1).1 = 0 := by simpa using c100
        refine GC.skip ?_
        refine GX.then ?_
        refine GC.seq ?_
        refine GC.reg ?_
        refine GL.val (rv_assign rfl) rfl ?_
        refine GL.nil ?_
        refine GX.then ?_
        refine GC.ret ?_
        refine GX.ret1 rfl (RR.tmp rfl) ?_
        exact fun w9 h => ⟨(), (by rw [ck_yes ⟨hhp, hrt2, h0⟩]), by
            have h := h.sel [] rfl rfl
            exact h, trivial⟩
end Go.Proofs.Ytkifeeiafachpaa
