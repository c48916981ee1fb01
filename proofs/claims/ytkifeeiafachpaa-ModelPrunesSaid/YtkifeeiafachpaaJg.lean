import Derived.Test.YtkifeeiafachpaaJf
set_option linter.unusedVariables false
set_option linter.unusedSimpArgs false
namespace Go.Proofs.Ytkifeeiafachpaa
open Go Go.RowKit Go.Bz
theorem fo_26_2 : fieldOff Try.prog 26 2 = some 2 := by kernel_rfl
theorem hb_25 : hasBody Try.prog 25 = true := by kernel_rfl
theorem hb_26 : hasBody Try.prog 26 = true := by kernel_rfl
theorem hb_28 : hasBody Try.prog 28 = true := by kernel_rfl
theorem hb_44 : hasBody Try.prog 44 = true := by kernel_rfl
theorem hb_45 : hasBody Try.prog 45 = true := by kernel_rfl
set_option maxRecDepth 100000 in
set_option maxHeartbeats 1000000 in
theorem now_c (d : DirZ) (w : World) (hD : Has w (dfx d)) (hok : dOk d) (hrt : ∀ e ∈ d.1.2, rightL (epl e)) : Calls Try.prog 28 [.agg (dcell d).toArray].toArray w fun e w' => ∃ g : EpZ × List Fact, e = .returned (.tuple #[.slice g.1.1.1 g.1.2.length g.1.1.2, .bool (decide ((wt (lastL (dpl d).1) (dpl d).2.1).1 = 0))]) ∧ St noB w w' [frzN g.2] ∧ (epl g.1 = (wt (lastL (dpl d).1) (dpl d).2.1).2 ∧ Sbs (efx g.1) g.2 (dfx d) ∧ eOk g.1) := by
  refine GC.calls Try.func28 rfl rfl (St.begin _) ?_
  refine GC.seq ?_
  refine GC.reg ?_
  refine GL.step (ot_box rfl rfl rfl fun b1 => ?_)
  refine GL.val (rv_assign rfl) rfl ?_
  refine GL.val (rv_assign rfl) rfl ?_
  refine GL.nil ?_
  refine GX.then ?_
  refine GC.seq ?_
  refine GC.reg ?_
  refine GL.val (rv_loadA ag_26 rfl (Hd.cells (k := 0) rfl (us := dcell d) rfl) (by exact sz_26)) rfl ?_
  refine GL.step (ot_call hb_44 rfl (callOk fun w hh => rlast_c d w (hD.lift hh) hok) rfl fun _ _ => ?_)
  refine GL.val (rv_assign rfl) rfl ?_
  refine GL.nil ?_
  refine GX.then ?_
  refine GC.seq ?_
  refine GC.seq ?_
  refine GC.reg ?_
  refine GL.val (rv_assign rfl) rfl ?_
  refine GL.nil ?_
  refine GX.then ?_
  refine GC.block ?_
  refine GC.loopK (γ := Nat × EpZ × List Fact) [1] [0] (fun g Lk => (4, .slice g.2.1.1.1 g.2.1.2.length g.2.1.1.2) :: (5, .int .i64 (g.1 : Int)) :: Lk) (fun g Fk => frzN g.2.2 :: Fk) (fun g => (g.1 ≤ d.2.1.2.length) ∧ ((wt (lastL (dpl d).1) (dpl d).2.1) = wt (epl g.2.1) ((dpl d).2.1.drop g.1)) ∧ (rightL (epl g.2.1)) ∧ (Sbs (efx g.2.1) g.2.2 (dfx d)) ∧ (eOk g.2.1)) (fun g => d.2.1.2.length - g.1) (0, lastZ d, []) rfl rfl ⟨Nat.zero_le _, by rw [lastZ_pl]; rfl, lastZ_right hrt, lastZ_fx d, lastZ_ok hok⟩ (by repeat (first | exact Sub.nil | refine Sub.cons rfl ?_)) (fun w9 h => by
      have h := h.frzN0
      exact h) (fun ⟨j, z, F⟩ ⟨hj, hw, hr, hs, ho⟩ => ?_)
  dsimp only at hj hw hr hs ho ⊢
  refine GC.seq ?_
  refine GC.seq ?_
  refine GC.reg ?_
  refine GL.val (rv_move rfl) rfl ?_
  refine GL.val (rv_field fo_26_1 rfl rfl) rfl ?_
  refine GL.val (rv_load ag_23 rfl (Hd.cell (k := 1) rfl rfl)) rfl ?_
  refine GL.val (rv_lenSl Try.underlying23 rfl) rfl ?_
  refine GL.val (rv_lss rfl rfl) rfl ?_
  refine GL.nil ?_
  refine GX.then ?_
  refine GC.condP rfl (fun c14 => ?_) (fun c14 => ?_)
  · have hlt : j < d.2.1.2.length := by omega
    have hqlim := hok.2.2.2
    have hqm : d.2.1.2[j] ∈ d.2.1.2 := List.getElem_mem _
    have hqo := hok.2.1 _ hqm
    have hql : (qzc d.2.1.2[j]).length = 35 := qc_len hqo.2.2.2
    obtain ⟨bq, oq, hAq, hCq⟩ := slr_some (hD _ (dfx_q d)) (fcat_ne (qz_len hok.2.1) (by decide) hlt)
    refine GC.skip ?_
    refine GX.then ?_
    refine GC.seq ?_
    refine GC.block ?_
    refine GC.seq ?_
    refine GC.reg ?_
    refine GL.val (rv_move rfl) rfl ?_
    refine GL.val (rv_field fo_26_1 rfl rfl) rfl ?_
    refine GL.val (rv_load ag_23 rfl (Hd.cell (k := 1) rfl rfl)) rfl ?_
    refine GL.val (rv_move rfl) rfl ?_
    refine GL.val ((by first | exact rv_elemJ (q := oq + (j) * 35) (j) es_23 (by rw [hAq]; rfl) rfl rfl hlt rfl)) rfl ?_
    refine GL.val (rv_loadAL ag_31 rfl (Hd.cells0 (hCq.fcat (qz_len hok.2.1) (j) hlt) (fun h => h)) (by exact sz_31) hql) rfl ?_
    refine GL.step (ot_call hb_45 rfl (callOk fun w hh => rdone_c z.1.1 z.1.2 z.2 d.2.1.2[j] w (hs.has hh (k := 0) rfl hD) ho hr ((has_q hD hqm).lift hh) hqo) rfl fun g24 h24 => ?_)
    refine GL.val (rv_move rfl) rfl ?_
    refine GL.val (rv_extract rfl rfl) rfl ?_
    refine GL.val (rv_extract rfl rfl) rfl ?_
    refine GL.val (rv_assign rfl) rfl ?_
    refine GL.val (rv_assign rfl) rfl ?_
    refine GL.nil ?_
    refine GX.then ?_
    refine GC.seq ?_
    refine GC.seq ?_
    refine GC.reg ?_
    refine GL.val (rv_move rfl) rfl ?_
    refine GL.val (rv_neI rfl rfl) rfl ?_
    refine GL.nil ?_
    refine GX.then ?_
    refine GC.condP rfl (fun c28 => ?_) (fun c28 => ?_)
    · have hwe : (wt (lastL (dpl d).1) (dpl d).2.1) = (dnE (z.2.map bpl) (rpl d.2.1.2[j]), []) := by rw [hw, show (dpl d).2.1 = d.2.1.2.map rpl from rfl, drop_rpl hlt]; exact wt_err c28
      have hwf : decide ((wt (lastL (dpl d).1) (dpl d).2.1).1 = 0) = false := decide_eq_false (by rw [hwe]; exact c28)
      refine GC.seq ?_
      refine GC.reg ?_
      refine GL.val (rv_assign rfl) rfl ?_
      refine GL.val (rv_assign rfl) rfl ?_
      refine GL.nil ?_
      refine GX.then ?_
      refine GC.ret ?_
      refine GX.then_ret ?_
      refine GX.blk_ret ?_
      refine GX.then_ret ?_
      refine GX.then_ret ?_
      refine GX.blk_ret ?_
      refine GX.then_ret ?_
      refine GX.ret2 rfl (RR.tmp rfl) (RR.tmp rfl) ?_
      exact fun w9 h => ⟨(((none, 0), []), []), (by rw [hwf]; rfl), by
          have h := h.sel [] rfl rfl
          have h := (h.take 0).frzN0
          exact h, ⟨by rw [hwe]; rfl, Sbs.cons (.inl rfl) (Sbs.nil _ _), ⟨fun b hb => (by cases hb), Nat.zero_le _, Nat.le_refl _⟩⟩⟩
    · have hd0 : dnE (epl z) (rpl d.2.1.2[j]) = 0 := Decidable.byContradiction c28
      refine GC.skip ?_
      refine GX.then ?_
      refine GC.reg ?_
      refine GL.val (rv_move rfl) rfl ?_
      refine GL.val (rv_assign rfl) rfl ?_
      refine GL.nil ?_
      refine GX.blk ?_
      refine GX.then ?_
      refine GC.reg ?_
      refine GL.val (rv_move rfl) rfl ?_
      refine GL.val (rv_add rfl rfl (by omega) (by omega)) rfl ?_
      refine GL.val (rv_assign rfl) rfl ?_
      refine GL.nil ?_
      obtain ⟨hp, hsb, hoo⟩ := h24
      change epl g24.1 = dnL (epl z) _ at hp
      exact GX.round (j + 1, g24.1, g24.2 ++ F) (by dsimp only; omega) ⟨by dsimp only; omega, by rw [hw, show (dpl d).2.1 = d.2.1.2.map rpl from rfl, drop_rpl hlt, wt_cons hd0, ← hp], by rw [hp]; exact dn_right hr hd0, hsb.trans (sb_q hqm hs), hoo⟩ (by repeat (first | exact Sub.nil | refine Sub.cons rfl ?_)) (fun w9 h => by
          have h := h.sel [2, 1, 0] rfl rfl
          have h := h.frzNAdd
          exact h)
  · have hjj : j = d.2.1.2.length := by omega
    have hwe : (wt (lastL (dpl d).1) (dpl d).2.1) = (0, epl z) := by rw [hw, List.drop_of_length_le (by rw [show (dpl d).2.1 = d.2.1.2.map rpl from rfl, List.length_map]; omega)]; rfl
    refine GC.exit ?_
    refine GX.then_exit ?_
    refine GX.then_exit ?_
    refine GX.blk_eq ?_
    refine GX.then ?_
    refine GC.seq ?_
    refine GC.reg ?_
    refine GL.val (rv_move rfl) rfl ?_
    refine GL.val (rv_assign rfl) rfl ?_
    refine GL.val (rv_assign rfl) rfl ?_
    refine GL.nil ?_
    refine GX.then ?_
    refine GC.ret ?_
    refine GX.ret2 rfl (RR.tmp rfl) (RR.tmp rfl) ?_
    exact fun w9 h => ⟨(z, F), (by rw [show decide ((wt (lastL (dpl d).1) (dpl d).2.1).1 = 0) = true from decide_eq_true (by rw [hwe])]), by
        have h := h.sel [0] rfl rfl
        exact h, ⟨by rw [hwe], hs, ho⟩⟩
theorem headP_iff {d : DirZ} : headP (dpl d) ↔ (d.1.2.length ≤ 64 ∧ d.2.1.2.length ≤ 16 ∧ 1 ≤ d.2.2.toNat ∧ d.2.2.toNat ≤ max 1 d.1.2.length) := by
  unfold headP dpl; simp only [List.length_map]
theorem ofNat_toNat64 {n : Nat} (h : n < 18446744073709551616) : (UInt64.ofNat n).toNat = n := by rw [UInt64.toNat_ofNat']; exact Nat.mod_eq_of_lt h
theorem ck_no {d : Dz} (h : ¬ ckP d) : ckE d = 1 := if_neg h
theorem ck_yes {d : Dz} (h : ckP d) : ckE d = 0 := if_pos h
set_option maxRecDepth 100000 in
set_option maxHeartbeats 1000000 in
theorem ck_c (d : DirZ) (w : World) (hD : Has w (dfx d)) (hok : dOk d) : Calls Try.prog 12 [.agg (dcell d).toArray].toArray w fun e w' => ∃ _g : Unit, e = .returned (.int .i64 (ckE (dpl d))) ∧ St noB w w' [] ∧ True := by
  refine GC.calls Try.func12 rfl rfl (St.begin _) ?_
  obtain ⟨hok1, hok2, hok3, hok4⟩ := id hok
  refine GC.seq ?_
  refine GC.reg ?_
  refine GL.step (ot_box rfl rfl rfl fun b1 => ?_)
  refine GL.val (rv_assign rfl) rfl ?_
  refine GL.nil ?_
  refine GX.then ?_
  refine GC.seq ?_
  refine GC.seq ?_
  refine GC.cutq (γ := Unit) [1] [0] (fun g Lk => (31, .bool (decide (¬ headP (dpl d)))) :: Lk) (fun g Fk => Fk) (fun g => True) rfl rfl ?_ (fun _ _ => ?_)
  · rcases (by omega : (64 < d.1.2.length) ∨ (d.1.2.length ≤ 64 ∧ 16 < d.2.1.2.length) ∨ (d.1.2.length ≤ 64 ∧ d.2.1.2.length ≤ 16 ∧ d.2.2.toNat < 1) ∨ (d.1.2.length ≤ 64 ∧ d.2.1.2.length ≤ 16 ∧ 1 ≤ d.2.2.toNat ∧ max 1 d.1.2.length < d.2.2.toNat) ∨ (d.1.2.length ≤ 64 ∧ d.2.1.2.length ≤ 16 ∧ 1 ≤ d.2.2.toNat ∧ d.2.2.toNat ≤ max 1 d.1.2.length)) with h | h | h | h | h
    · rw [show decide (¬ headP (dpl d)) = true from decide_eq_true (fun k => by have := headP_iff.1 k; omega)]
      refine GC.reg ?_
      refine GL.val (rv_field fo_26_0 rfl rfl) rfl ?_
      refine GL.val (rv_load ag_22 rfl (Hd.cell (k := 0) rfl rfl)) rfl ?_
      refine GL.val (rv_lenSl Try.underlying22 rfl) rfl ?_
      refine GL.val ((by exact rv_to (v' := .bool true) (rv_gtr rfl rfl) (congrArg Value.bool (decide_eq_true (by omega))))) rfl ?_
      refine GL.val (rv_move rfl) rfl ?_
      refine GL.skipG rfl rfl ?_
      refine GL.skipG rfl rfl ?_
      refine GL.skipG rfl rfl ?_
      refine GL.skipG rfl rfl ?_
      refine GL.val ((by exact rv_orT rfl rfl rfl)) rfl ?_
      refine GL.val (rv_move rfl) rfl ?_
      refine GL.skipG rfl rfl ?_
      refine GL.skipG rfl rfl ?_
      refine GL.skipG rfl rfl ?_
      refine GL.val ((by exact rv_orT rfl rfl rfl)) rfl ?_
      refine GL.val (rv_move rfl) rfl ?_
      refine GL.skipG rfl rfl ?_
      refine GL.skipG rfl rfl ?_
      refine GL.skipG rfl rfl ?_
      refine GL.skipG rfl rfl ?_
      refine GL.skipG rfl rfl ?_
      refine GL.skipG rfl rfl ?_
      refine GL.skipG rfl rfl ?_
      refine GL.skipG rfl rfl ?_
      refine GL.val ((by exact rv_orT rfl rfl rfl)) rfl ?_
      refine GL.nil ?_
      exact GX.cutq () trivial (by repeat (first | exact Sub.nil | refine Sub.cons rfl ?_)) (fun w9 h => by
          exact h)
    · rw [show decide (¬ headP (dpl d)) = true from decide_eq_true (fun k => by have := headP_iff.1 k; omega)]
      refine GC.reg ?_
      refine GL.val (rv_field fo_26_0 rfl rfl) rfl ?_
      refine GL.val (rv_load ag_22 rfl (Hd.cell (k := 0) rfl rfl)) rfl ?_
      refine GL.val (rv_lenSl Try.underlying22 rfl) rfl ?_
      refine GL.val ((by exact rv_to (v' := .bool false) (rv_gtr rfl rfl) (congrArg Value.bool (decide_eq_false (by omega))))) rfl ?_
      refine GL.val (rv_move rfl) rfl ?_
      refine GL.valT rfl (rv_field fo_26_1 rfl rfl) rfl ?_
      refine GL.valT rfl (rv_load ag_23 rfl (Hd.cell (k := 0) rfl rfl)) rfl ?_
      refine GL.valT rfl (rv_lenSl Try.underlying23 rfl) rfl ?_
      refine GL.valT rfl ((by exact rv_to (v' := .bool true) (rv_gtr rfl rfl) (congrArg Value.bool (decide_eq_true (by omega))))) rfl ?_
      refine GL.val ((by exact rv_orF rfl rfl rfl)) rfl ?_
      refine GL.val (rv_move rfl) rfl ?_
      refine GL.skipG rfl rfl ?_
      refine GL.skipG rfl rfl ?_
      refine GL.skipG rfl rfl ?_
      refine GL.val ((by exact rv_orT rfl rfl rfl)) rfl ?_
      refine GL.val (rv_move rfl) rfl ?_
      refine GL.skipG rfl rfl ?_
      refine GL.skipG rfl rfl ?_
      refine GL.skipG rfl rfl ?_
      refine GL.skipG rfl rfl ?_
      refine GL.skipG rfl rfl ?_
      refine GL.skipG rfl rfl ?_
      refine GL.skipG rfl rfl ?_
      refine GL.skipG rfl rfl ?_
      refine GL.val ((by exact rv_orT rfl rfl rfl)) rfl ?_
      refine GL.nil ?_
      exact GX.cutq () trivial (by repeat (first | exact Sub.nil | refine Sub.cons rfl ?_)) (fun w9 h => by
          exact h)
    · rw [show decide (¬ headP (dpl d)) = true from decide_eq_true (fun k => by have := headP_iff.1 k; omega)]
      refine GC.reg ?_
      refine GL.val (rv_field fo_26_0 rfl rfl) rfl ?_
      refine GL.val (rv_load ag_22 rfl (Hd.cell (k := 0) rfl rfl)) rfl ?_
      refine GL.val (rv_lenSl Try.underlying22 rfl) rfl ?_
      refine GL.val ((by exact rv_to (v' := .bool false) (rv_gtr rfl rfl) (congrArg Value.bool (decide_eq_false (by omega))))) rfl ?_
      refine GL.val (rv_move rfl) rfl ?_
      refine GL.valT rfl (rv_field fo_26_1 rfl rfl) rfl ?_
      refine GL.valT rfl (rv_load ag_23 rfl (Hd.cell (k := 0) rfl rfl)) rfl ?_
      refine GL.valT rfl (rv_lenSl Try.underlying23 rfl) rfl ?_
      refine GL.valT rfl ((by exact rv_to (v' := .bool false) (rv_gtr rfl rfl) (congrArg Value.bool (decide_eq_false (by omega))))) rfl ?_
      refine GL.val ((by exact rv_orF rfl rfl rfl)) rfl ?_
      refine GL.val (rv_move rfl) rfl ?_
      refine GL.valT rfl (rv_field fo_26_2 rfl rfl) rfl ?_
      refine GL.valT rfl (rv_load ag_24 rfl (Hd.cell (k := 0) rfl rfl)) rfl ?_
      refine GL.valT rfl ((by exact rv_to (v' := .bool true) (rv_lss rfl rfl) (congrArg Value.bool (decide_eq_true (by omega))))) rfl ?_
      refine GL.val ((by exact rv_orF rfl rfl rfl)) rfl ?_
      refine GL.val (rv_move rfl) rfl ?_
      refine GL.skipG rfl rfl ?_
      refine GL.skipG rfl rfl ?_
      refine GL.skipG rfl rfl ?_
      refine GL.skipG rfl rfl ?_
      refine GL.skipG rfl rfl ?_
      refine GL.skipG rfl rfl ?_
      refine GL.skipG rfl rfl ?_
      refine GL.skipG rfl rfl ?_
      refine GL.val ((by exact rv_orT rfl rfl rfl)) rfl ?_
      refine GL.nil ?_
      exact GX.cutq () trivial (by repeat (first | exact Sub.nil | refine Sub.cons rfl ?_)) (fun w9 h => by
          exact h)
    · rw [show decide (¬ headP (dpl d)) = true from decide_eq_true (fun k => by have := headP_iff.1 k; omega)]
      refine GC.reg ?_
      refine GL.val (rv_field fo_26_0 rfl rfl) rfl ?_
      refine GL.val (rv_load ag_22 rfl (Hd.cell (k := 0) rfl rfl)) rfl ?_
      refine GL.val (rv_lenSl Try.underlying22 rfl) rfl ?_
      refine GL.val ((by exact rv_to (v' := .bool false) (rv_gtr rfl rfl) (congrArg Value.bool (decide_eq_false (by omega))))) rfl ?_
      refine GL.val (rv_move rfl) rfl ?_
      refine GL.valT rfl (rv_field fo_26_1 rfl rfl) rfl ?_
      refine GL.valT rfl (rv_load ag_23 rfl (Hd.cell (k := 0) rfl rfl)) rfl ?_
      refine GL.valT rfl (rv_lenSl Try.underlying23 rfl) rfl ?_
      refine GL.valT rfl ((by exact rv_to (v' := .bool false) (rv_gtr rfl rfl) (congrArg Value.bool (decide_eq_false (by omega))))) rfl ?_
      refine GL.val ((by exact rv_orF rfl rfl rfl)) rfl ?_
      refine GL.val (rv_move rfl) rfl ?_
      refine GL.valT rfl (rv_field fo_26_2 rfl rfl) rfl ?_
      refine GL.valT rfl (rv_load ag_24 rfl (Hd.cell (k := 0) rfl rfl)) rfl ?_
      refine GL.valT rfl ((by exact rv_to (v' := .bool false) (rv_lss rfl rfl) (congrArg Value.bool (decide_eq_false (by omega))))) rfl ?_
      refine GL.val ((by exact rv_orF rfl rfl rfl)) rfl ?_
      refine GL.val (rv_move rfl) rfl ?_
      refine GL.valT rfl (rv_field fo_26_2 rfl rfl) rfl ?_
      refine GL.valT rfl (rv_load ag_24 rfl (Hd.cell (k := 0) rfl rfl)) rfl ?_
      refine GL.valT rfl (rv_field fo_26_0 rfl rfl) rfl ?_
      refine GL.valT rfl (rv_load ag_22 rfl (Hd.cell (k := 0) rfl rfl)) rfl ?_
      refine GL.valT rfl (rv_lenSl Try.underlying22 rfl) rfl ?_
      refine GL.valT rfl (rv_max0 Try.underlying3 rfl rfl) rfl ?_
      refine GL.valT rfl (rv_conv64I (max 1 d.1.2.length) Try.underlying3 Try.underlying24 rfl (by omega)) rfl ?_
      refine GL.valT rfl ((by exact rv_to (v' := .bool true) (rv_gtr rfl rfl) (congrArg Value.bool (decide_eq_true (by rw [ofNat_toNat64 (by omega)]; omega))))) rfl ?_
      refine GL.val ((by exact rv_orF rfl rfl rfl)) rfl ?_
      refine GL.nil ?_
      exact GX.cutq () trivial (by repeat (first | exact Sub.nil | refine Sub.cons rfl ?_)) (fun w9 h => by
          exact h)
    · rw [show decide (¬ headP (dpl d)) = false from decide_eq_false (fun k => k (headP_iff.2 h))]
      refine GC.reg ?_
      refine GL.val (rv_field fo_26_0 rfl rfl) rfl ?_
      refine GL.val (rv_load ag_22 rfl (Hd.cell (k := 0) rfl rfl)) rfl ?_
      refine GL.val (rv_lenSl Try.underlying22 rfl) rfl ?_
      refine GL.val ((by exact rv_to (v' := .bool false) (rv_gtr rfl rfl) (congrArg Value.bool (decide_eq_false (by omega))))) rfl ?_
      refine GL.val (rv_move rfl) rfl ?_
      refine GL.valT rfl (rv_field fo_26_1 rfl rfl) rfl ?_
      refine GL.valT rfl (rv_load ag_23 rfl (Hd.cell (k := 0) rfl rfl)) rfl ?_
      refine GL.valT rfl (rv_lenSl Try.underlying23 rfl) rfl ?_
      refine GL.valT rfl ((by exact rv_to (v' := .bool false) (rv_gtr rfl rfl) (congrArg Value.bool (decide_eq_false (by omega))))) rfl ?_
      refine GL.val ((by exact rv_orF rfl rfl rfl)) rfl ?_
      refine GL.val (rv_move rfl) rfl ?_
      refine GL.valT rfl (rv_field fo_26_2 rfl rfl) rfl ?_
      refine GL.valT rfl (rv_load ag_24 rfl (Hd.cell (k := 0) rfl rfl)) rfl ?_
      refine GL.valT rfl ((by exact rv_to (v' := .bool false) (rv_lss rfl rfl) (congrArg Value.bool (decide_eq_false (by omega))))) rfl ?_
      refine GL.val ((by exact rv_orF rfl rfl rfl)) rfl ?_
      refine GL.val (rv_move rfl) rfl ?_
      refine GL.valT rfl (rv_field fo_26_2 rfl rfl) rfl ?_
      refine GL.valT rfl (rv_load ag_24 rfl (Hd.cell (k := 0) rfl rfl)) rfl ?_
      refine GL.valT rfl (rv_field fo_26_0 rfl rfl) rfl ?_
      refine GL.valT rfl (rv_load ag_22 rfl (Hd.cell (k := 0) rfl rfl)) rfl ?_
      refine GL.valT rfl (rv_lenSl Try.underlying22 rfl) rfl ?_
      refine GL.valT rfl (rv_max0 Try.underlying3 rfl rfl) rfl ?_
      refine GL.valT rfl (rv_conv64I (max 1 d.1.2.length) Try.underlying3 Try.underlying24 rfl (by omega)) rfl ?_
      refine GL.valT rfl ((by exact rv_to (v' := .bool false) (rv_gtr rfl rfl) (congrArg Value.bool (decide_eq_false (by rw [ofNat_toNat64 (by omega)]; omega))))) rfl ?_
      refine GL.val ((by exact rv_orF rfl rfl rfl)) rfl ?_
      refine GL.nil ?_
      exact GX.cutq () trivial (by repeat (first | exact Sub.nil | refine Sub.cons rfl ?_)) (fun w9 h => by
          exact h)
  refine GX.then ?_
  refine GC.condP rfl (fun c31 => ?_) (fun c31 => ?_)
  · skip
    refine GC.seq ?_
    refine GC.reg ?_
    refine GL.val (rv_assign rfl) rfl ?_
    refine GL.nil ?_
    refine GX.then ?_
    refine GC.ret ?_
    refine GX.then_ret ?_
    refine GX.ret1 rfl (RR.tmp rfl) ?_
    exact fun w9 h => ⟨(), (by rw [ck_no (fun h => c31 h.1)]), by
        have h := h.sel [] rfl rfl
        exact h, trivial⟩
  · have hhp : headP (dpl d) := Decidable.byContradiction c31
    refine GC.skip ?_
    refine GX.then ?_
    refine GC.seq ?_
    refine GC.seq ?_
    refine GC.reg ?_
    refine GL.val (rv_field fo_26_0 rfl rfl) rfl ?_
    refine GL.val (rv_load ag_22 rfl (Hd.cell (k := 0) rfl rfl)) rfl ?_
    refine GL.val (rv_lenSl Try.underlying22 rfl) rfl ?_
    refine GL.val (rv_move rfl) rfl ?_
    refine GL.nil ?_
    refine GX.then ?_
    refine GC.block ?_
    refine GC.loopK (γ := Nat) [34, 33, 1] [0] (fun g Lk => (35, .int .i64 (g : Int)) :: Lk) (fun g Fk => Fk) (fun g => (g ≤ d.1.2.length) ∧ (∀ k (hk : k < d.1.2.length), k < g → rightL (epl d.1.2[k]))) (fun g => d.1.2.length - g) (0) rfl rfl ⟨Nat.zero_le _, fun k _ h => absurd h (Nat.not_lt_zero _)⟩ (by repeat (first | exact Sub.nil | refine Sub.cons rfl ?_)) (fun w9 h => by
        exact h) (fun i ⟨hi, h1⟩ => ?_)
    skip
    refine GC.seq ?_
    refine GC.reg ?_
    refine GL.val (rv_lss rfl rfl) rfl ?_
    refine GL.nil ?_
    refine GX.then ?_
    refine GC.seq ?_
    refine GC.condP rfl (fun c36 => ?_) (fun c36 => ?_)
    · have hlt : i < d.1.2.length := by omega
      have hem : d.1.2[i] ∈ d.1.2 := List.getElem_mem _
      obtain ⟨be, oe, hAe, hCe⟩ := slr_some (hD _ (dfx_e d)) (fcat_ne ec_len (by decide) hlt)
      replace hAe : d.1.1.1 = some ⟨be, oe, none⟩ := hAe
      replace hCe : Cells w be oe (fcat ecell d.1.2) := hCe
      refine GC.skip ?_
      refine GX.then ?_
      refine GC.seq ?_
      refine GC.block ?_
      refine GC.seq ?_
      refine GC.reg ?_
      refine GL.val (rv_elemJ (q := oe + (i) * 1) (i) es_22 (by rw [hAe]; rfl) rfl rfl hlt rfl) rfl ?_
      refine GL.val (rv_load ag_46 rfl (Hd.cell0 ((hCe.fcat ec_len (i) hlt) 0 _ rfl) (fun h => h))) rfl ?_
      refine GL.val (rv_assign rfl) rfl ?_
      refine GL.nil ?_
      refine GX.then ?_
      refine GC.seq ?_
      refine GC.reg ?_
      refine GL.val (rv_move rfl) rfl ?_
      refine GL.step (ot_call hb_25 rfl (callOk fun w hh => right_c d.1.2[i].1.1 d.1.2[i].1.2 d.1.2[i].2 w (hh.rd0n (hD _ (dfx_ep hem _ (efx_hd _)))) (hok1 _ hem)) rfl fun _ _ => ?_)
      refine GL.val (rv_not rfl) rfl ?_
      refine GL.nil ?_
      refine GX.then ?_
      refine GC.cond rfl (fun c41 => ?_) (fun c41 => ?_)
      · have hri : ¬ rightL (epl d.1.2[i]) := by change ¬ rightL (List.map bpl d.1.2[i].2); simpa using c41
        refine GC.seq ?_
        refine GC.reg ?_
        refine GL.val (rv_assign rfl) rfl ?_
        refine GL.nil ?_
        refine GX.then ?_
        refine GC.ret ?_
        refine GX.blk_ret ?_
        refine GX.then_ret ?_
        refine GX.then_ret ?_
        refine GX.blk_ret ?_
        refine GX.then_ret ?_
        refine GX.ret1 rfl (RR.tmp rfl) ?_
        exact fun w9 h => ⟨(), (by rw [ck_no (fun h => hri (h.2.1 _ (List.mem_map_of_mem hem)))]), by
            have h := h.sel [] rfl rfl
            exact h, trivial⟩
      · have hri : rightL (epl d.1.2[i]) := by change rightL (List.map bpl d.1.2[i].2); simpa using c41
        refine GC.skip ?_
        refine GX.blk ?_
        refine GX.then ?_
        refine GC.reg ?_
        refine GL.val (rv_add rfl rfl (by omega) (by omega)) rfl ?_
        refine GL.val (rv_move rfl) rfl ?_
        refine GL.nil ?_
        exact GX.round (i + 1) (by omega) ⟨by omega, fun k hk hki => by rcases Nat.lt_or_ge k i with h | h; exact h1 k hk h; obtain rfl : k = i := (by omega); exact hri⟩ (by repeat (first | exact Sub.nil | refine Sub.cons rfl ?_)) (fun w9 h => by
            exact h)
    · have hrt : ∀ e ∈ d.1.2, rightL (epl e) := fun e he => by
        obtain ⟨k, hk, rfl⟩ := List.mem_iff_getElem.1 he
        exact h1 k hk (by omega)
      have hrt2 : ∀ l ∈ (dpl d).1, rightL l := fun l hl => by
        obtain ⟨e, he, rfl⟩ := List.mem_map.1 hl
        exact hrt e he
      refine GC.exit ?_
      refine GX.then_exit ?_
      refine GX.then_exit ?_
      refine GX.blk_eq ?_
      refine GX.then ?_
      refine GC.seq ?_
      refine GC.seq ?_
      refine GC.reg ?_
      refine GL.val (rv_loadA ag_26 rfl (Hd.cells (k := 0) rfl (us := dcell d) rfl) (by exact sz_26)) rfl ?_
      refine GL.step (ot_call hb_26 rfl (callOk fun w hh => wait_c d w (hD.lift hh) hok hrt) rfl fun g45 _ => ?_)
      refine GL.val (rv_move rfl) rfl ?_
      refine GL.val (rv_extract rfl rfl) rfl ?_
      refine GL.val (rv_extract rfl rfl) rfl ?_
      refine GL.val (rv_assign rfl) rfl ?_
      refine GL.val (rv_assign rfl) rfl ?_
      refine GL.nil ?_
      refine GX.then ?_
      refine GC.seq ?_
      refine GC.reg ?_
      refine GL.val (rv_move rfl) rfl ?_
      refine GL.val (rv_neI rfl rfl) rfl ?_
      refine GL.nil ?_
      refine GX.then ?_
      refine GC.condP rfl (fun c49 => ?_) (fun c49 => ?_)
      · skip
        refine GC.seq ?_
        refine GC.reg ?_
        refine GL.val (rv_assign rfl) rfl ?_
        refine GL.nil ?_
        refine GX.then ?_
        refine GC.ret ?_
        refine GX.then_ret ?_
        refine GX.ret1 rfl (RR.tmp rfl) ?_
        exact fun w9 h => ⟨(), (by rw [ck_no (fun h => c49 h.2.2)]), by
            have h := h.sel [] rfl rfl
            exact h, trivial⟩
      · have h0 : (wt (lastL (dpl d).1) (dpl d).2.1).1 = 0 := Decidable.byContradiction c49
        refine GC.skip ?_
        refine GX.then ?_
        refine GC.seq ?_
        refine GC.reg ?_
        refine GL.val (rv_assign rfl) rfl ?_
        refine GL.nil ?_
        refine GX.then ?_
        refine GC.ret ?_
        refine GX.ret1 rfl (RR.tmp rfl) ?_
        exact fun w9 h => ⟨(), (by rw [ck_yes ⟨hhp, hrt2, h0⟩]), by
            have h := h.sel [] rfl rfl
            exact h, trivial⟩
end Go.Proofs.Ytkifeeiafachpaa
