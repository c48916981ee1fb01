import Derived.Test.YtkifeeiafachpaaJg
set_option linter.unusedVariables false
set_option linter.unusedSimpArgs false
namespace Go.Proofs.Ytkifeeiafachpaa
open Go Go.RowKit Go.Bz
theorem hb_50 : hasBody Try.prog 50 = true := by kernel_rfl
theorem pl_26 : placesB Try.prog 26 = some [(0, 1), (1, 1), (2, 1)] := by kernel_rfl
theorem sz_22 : (Try.prog.info? 22).map (·.size) = some 1 := by kernel_rfl
theorem sz_23 : (Try.prog.info? 23).map (·.size) = some 1 := by kernel_rfl
theorem sz_27 : (Try.prog.info? 27).map (·.size) = some 1 := by kernel_rfl
theorem zb_26 : zeroB Try.prog 26 = some (.agg #[.slice none 0 0, .slice none 0 0, .int .u64 0]) := by kernel_rfl
theorem bs_one {a : List Value} {m : Nat} (h : a.length = m) : ([Value.agg a.toArray].all fun v => Nat.beq v.cells.size m) = true := by
  simp [Value.cells, h]
theorem fm_one {a : List Value} : ([Value.agg a.toArray].flatMap fun v => v.cells.toList) = a := by simp [Value.cells]
set_option maxRecDepth 100000 in
set_option maxHeartbeats 1000000 in
theorem own_c (d : DirZ) (w : World) (hD : Has w (dfx d)) (hok : dOk d) (hk : ∀ e ∈ d.1.2, ∀ b ∈ e.2, b.2.1.length ≤ 1000000) : Calls Try.prog 38 [.agg (dcell d).toArray].toArray w fun e w' => ∃ g : DirZ × List Fact, e = .returned (.agg (dcell g.1).toArray) ∧ St noB w w' [frzN g.2] ∧ (dpl g.1 = dpl d ∧ Sbs (dfx g.1) g.2 [] ∧ dOk g.1) := by
  refine GC.calls Try.func38 rfl rfl (St.begin _) ?_
  obtain ⟨hok1, hok2, hok3, hok4⟩ := id hok
  refine GC.seq ?_
  refine GC.reg ?_
  refine GL.step (ot_box rfl rfl rfl fun b1 => ?_)
  refine GL.step (ot_alloc (zs := [.slice none 0 0, .slice none 0 0, .int .u64 0]) zb_26 rfl rfl fun b2 => ?_)
  refine GL.nil ?_
  refine GX.then ?_
  refine GC.seq ?_
  refine GC.reg ?_
  refine GL.val (rv_field fo_26_2 rfl rfl) rfl ?_
  refine GL.val (rv_load ag_24 rfl (Hd.cell (k := 1) rfl rfl)) rfl ?_
  refine GL.val (rv_to (v' := .agg (dcell (((none, 0), []), ((none, 0), []), d.2.2)).toArray) (rv_buildS pl_26 zb_26 rfl rfl rfl) rfl) rfl ?_
  refine GL.step (ot_alloc (zs := [.slice none 0 0, .slice none 0 0, .int .u64 0]) zb_26 rfl rfl fun b3 => ?_)
  refine GL.step (ot_store (k := 0) rfl rfl rfl rfl sz_26 rfl rfl (show repl _ 0 (dcell (((none, 0), []), ((none, 0), []), d.2.2)) = dcell (((none, 0), []), ((none, 0), []), d.2.2) from rfl) ?_)
  refine GL.nil ?_
  refine GX.then ?_
  refine GC.seq ?_
  refine GC.seq ?_
  refine GC.reg ?_
  refine GL.val (rv_field fo_26_0 rfl rfl) rfl ?_
  refine GL.val (rv_load ag_22 rfl (Hd.cell (k := 2) rfl rfl)) rfl ?_
  refine GL.val (rv_lenSl Try.underlying22 rfl) rfl ?_
  refine GL.val (rv_move rfl) rfl ?_
  refine GL.nil ?_
  refine GX.then ?_
  refine GC.block ?_
  refine GC.loopK (γ := Nat × List EpZ × (Option Addr × Nat) × List Fact) [13, 12, 3, 2, 1] [2, 1] (fun g Lk => (14, .int .i64 (g.1 : Int)) :: Lk) (fun g Fk => .cl b3 [.slice g.2.2.1.1 g.1 g.2.2.1.2, .slice none 0 0, v64 d.2.2] 26 :: .row g.2.2.1.1 g.2.2.1.2 46 1 g.1 (fcat ecell g.2.1) :: frzN g.2.2.2 :: Fk) (fun g => (g.1 ≤ d.1.2.length) ∧ (g.2.1.map epl = (d.1.2.map epl).take g.1) ∧ (Sbs (g.2.1.flatMap efx) g.2.2.2 []) ∧ (∀ e ∈ g.2.1, eOk e)) (fun g => d.1.2.length - g.1) (0, [], (none, 0), []) rfl rfl ⟨Nat.zero_le _, rfl, Sbs.nil _ _, fun b h => by cases h⟩ (by repeat (first | exact Sub.nil | refine Sub.cons rfl ?_)) (fun w9 h => by
      have h := h.frzN0
      have h := h.nilRow 46 1
      have h := h.sel [4, 3, 1, 0, 2] rfl rfl
      exact h) (fun ⟨i, es1, rA, F⟩ ⟨hi, he, hs, ho⟩ => ?_)
  dsimp only at hi he hs ho ⊢
  refine GC.seq ?_
  refine GC.reg ?_
  refine GL.val (rv_lss rfl rfl) rfl ?_
  refine GL.nil ?_
  refine GX.then ?_
  refine GC.seq ?_
  refine GC.condP rfl (fun c15 => ?_) (fun c15 => ?_)
  · have hlt : i < d.1.2.length := by omega
    have hem : d.1.2[i] ∈ d.1.2 := List.getElem_mem _
    obtain ⟨be, oe, hAe, hCe⟩ := slr_some (hD _ (dfx_e d)) (fcat_ne ec_len (by decide) hlt)
    replace hAe : d.1.1.1 = some ⟨be, oe, none⟩ := hAe
    replace hCe : Cells w be oe (fcat ecell d.1.2) := hCe
    refine GC.skip ?_
    refine GX.then ?_
    refine GC.seq ?_
    refine GC.block ?_
    refine GC.seq ?_
    refine GC.reg ?_
    refine GL.val (rv_elemJ (q := oe + (i) * 1) (i) es_22 (by rw [hAe]; rfl) rfl rfl hlt rfl) rfl ?_
    refine GL.val (rv_load ag_46 rfl (Hd.cell0 ((hCe.fcat ec_len (i) hlt) 0 _ rfl) (fun h => h))) rfl ?_
    refine GL.val (rv_assign rfl) rfl ?_
    refine GL.nil ?_
    refine GX.then ?_
    refine GC.draw 7 [0] mo_ ?_
    refine GD.pure1 (i := 0) rfl (fun _ _ => rv_field fo_26_0 rfl rfl) ?_
    refine GD.pure1 (i := 2) rfl (fun _ _ => rv_move rfl) ?_
    refine GD.read1 (i := 1) rfl (rv_load ag_22 rfl (Hd.cell (k := 0) rfl rfl)) ?_
    refine GD.step (i := 3) (by kernel_rfl) rfl (ot_call hb_50 rfl (callOk fun w hh => copied_c d.1.2[i].1.1 d.1.2[i].1.2 d.1.2[i].2 w (fun f hf => hh.rd0n (hD f (dfx_ep hem f hf))) (hok1 _ hem) (hk _ hem)) rfl fun g21 h21 => ⟨.inr fun _ h => h.pk [1], ?_⟩)
    refine GD.step (i := 4) (by kernel_rfl) rfl (ot_buildSlice ei_22 rfl rfl rfl rfl rfl rfl fun b22 => ⟨.inr fun _ h => h.pk [2], ?_⟩)
    refine GD.step (i := 5) (by kernel_rfl) rfl (ot_append (k := 3) (news := ecell g21.1) ei_22 rfl rfl rfl rfl (fun w h => .inr ⟨b22, 0, rfl, Hd.cellsAll (k := 0) rfl w h⟩) rfl (by omega) (by decide) rfl fun A23 c23 z23 => ⟨.inr fun _ h => h.pk [2], ?_⟩)
    refine GD.pure1 (i := 6) rfl (fun _ _ => rv_field fo_26_0 rfl rfl) ?_
    refine GD.step (i := 7) (by kernel_rfl) rfl (ot_store (k := 2) rfl rfl rfl rfl sz_22 rfl rfl rfl ⟨.inl rfl, ?_⟩)
    refine GD.done (by kernel_rfl) ?_
    refine GX.blk ?_
    refine GX.then ?_
    refine GC.reg ?_
    refine GL.val (rv_add rfl rfl (by omega) (by omega)) rfl ?_
    refine GL.val (rv_move rfl) rfl ?_
    refine GL.nil ?_
    obtain ⟨hp, hsb, hoo⟩ := h21
    exact GX.round (i + 1, es1 ++ [g21.1], (A23, c23), g21.2 ++ F) (by omega) ⟨by omega, by rw [List.map_append, he, List.take_succ_eq_append_getElem (by rw [List.length_map]; exact hlt), List.getElem_map, List.map_singleton, hp]; rfl, by rw [List.flatMap_append, List.flatMap_singleton]; exact hs.l.app (fun f hf => (hsb f hf).imp id fun h => h.imp (fun h => List.mem_append_left _ h) id), fun b hb => (List.mem_append.1 hb).elim (ho b) (fun hb => by obtain rfl := List.mem_singleton.1 hb; exact hoo)⟩ (by repeat (first | exact Sub.nil | refine Sub.cons rfl ?_)) (fun w9 h => by
        have h := h.sel [6, 5, 3, 2, 4, 1] rfl rfl
        have h := h.frzNAdd
        have h := h.sel [4, 3, 0, 2, 1] rfl rfl
        rw [fcat_app, fcat_one]
        exact h)
  · obtain rfl : i = d.1.2.length := by omega
    rw [List.take_of_length_le (by rw [List.length_map]; omega)] at he
    have hel : es1.length = d.1.2.length := by have := congrArg List.length he; rwa [List.length_map, List.length_map] at this
    refine GC.exit ?_
    refine GX.then_exit ?_
    refine GX.then_exit ?_
    refine GX.blk_eq ?_
    refine GX.then ?_
    refine GC.seq ?_
    refine GC.seq ?_
    refine GC.reg ?_
    refine GL.val (rv_field fo_26_1 rfl rfl) rfl ?_
    refine GL.val (rv_load ag_23 rfl (Hd.cell (k := 4) rfl rfl)) rfl ?_
    refine GL.val (rv_lenSl Try.underlying23 rfl) rfl ?_
    refine GL.val (rv_move rfl) rfl ?_
    refine GL.nil ?_
    refine GX.then ?_
    refine GC.block ?_
    refine GC.loopK (γ := Nat × List ReqZ × (Option Addr × Nat) × List Fact) [28, 27, 3, 2] [4, 3, 1] (fun g Lk => (29, .int .i64 (g.1 : Int)) :: Lk) (fun g Fk => .cl b3 [.slice rA.1 d.1.2.length rA.2, .slice g.2.2.1.1 g.1 g.2.2.1.2, v64 d.2.2] 26 :: .row g.2.2.1.1 g.2.2.1.2 31 35 g.1 (fcat qzc g.2.1) :: frzN g.2.2.2 :: Fk) (fun g => (g.1 ≤ d.2.1.2.length) ∧ (g.2.1.map rpl = (d.2.1.2.map rpl).take g.1) ∧ (Sbs (es1.flatMap efx ++ g.2.1.map rfx) g.2.2.2 []) ∧ (∀ q ∈ g.2.1, qOk q)) (fun g => d.2.1.2.length - g.1) (0, [], (none, 0), F) rfl rfl ⟨Nat.zero_le _, rfl, by rw [List.map_nil, List.append_nil]; exact hs, fun b h => by cases h⟩ (by repeat (first | exact Sub.nil | refine Sub.cons rfl ?_)) (fun w9 h => by
        have h := h.nilRow 31 35
        have h := h.sel [5, 4, 2, 3, 0, 1] rfl rfl
        exact h) (fun ⟨j, qs1, rQ, F⟩ ⟨hj, hq1, hs2, ho2⟩ => ?_)
    dsimp only at hj hq1 hs2 ho2 ⊢
    refine GC.seq ?_
    refine GC.reg ?_
    refine GL.val (rv_lss rfl rfl) rfl ?_
    refine GL.nil ?_
    refine GX.then ?_
    refine GC.seq ?_
    refine GC.condP rfl (fun c30 => ?_) (fun c30 => ?_)
    · have hlt : j < d.2.1.2.length := by omega
      have hqlim := hok.2.2.2
      have hqm : d.2.1.2[j] ∈ d.2.1.2 := List.getElem_mem _
      have hqo := hok.2.1 _ hqm
      have hql : (qzc d.2.1.2[j]).length = 35 := qc_len hqo.2.2.2
      obtain ⟨bq, oq, hAq, hCq⟩ := slr_some (hD _ (dfx_q d)) (fcat_ne (qz_len hok.2.1) (by decide) hlt)
      refine GC.skip ?_
      refine GX.then ?_
      refine GC.seq ?_
      refine GC.block ?_
      refine GC.seq ?_
      refine GC.reg ?_
      refine GL.val ((by first | exact rv_elemJ (q := oq + (j) * 35) (j) es_23 (by rw [hAq]; rfl) rfl rfl hlt rfl)) rfl ?_
      refine GL.val (rv_loadAL ag_31 rfl (Hd.cells0 (hCq.fcat (qz_len hok.2.1) (j) hlt) (fun h => h)) (by exact sz_31) hql) rfl ?_
      refine GL.step (ot_alloc (zs := [.int .i64 0, .string ByteArray.empty, .slice none 0 0, .int .u8 0, .int .u8 0, .int .u8 0, .int .u8 0, .int .u8 0, .int .u8 0, .int .u8 0, .int .u8 0, .int .u8 0, .int .u8 0, .int .u8 0, .int .u8 0, .int .u8 0, .int .u8 0, .int .u8 0, .int .u8 0, .int .u8 0, .int .u8 0, .int .u8 0, .int .u8 0, .int .u8 0, .int .u8 0, .int .u8 0, .int .u8 0, .int .u8 0, .int .u8 0, .int .u8 0, .int .u8 0, .int .u8 0, .int .u8 0, .int .u8 0, .int .u8 0]) zb_31 rfl rfl fun b7 => ?_)
      refine GL.step (ot_storeA (k := 0) rfl rfl rfl rfl (by exact sz_31) hql rfl qc_one ?_)
      refine GL.nil ?_
      refine GX.then ?_
      refine GC.seq ?_
      refine GC.reg ?_
      refine GL.val (rv_field fo_31_2 rfl rfl) rfl ?_
      refine GL.val (rv_load ag_27 rfl (Hd.cell (k := 0) rfl rfl)) rfl ?_
      refine GL.step (ot_call hb_51 rfl (callOk fun w hh => clone_b d.2.1.2[j].2.2.2.1.1 _ d.2.1.2[j].2.2.2.1.2 d.2.1.2[j].2.2.1 w (hh.rd0n (hD _ (dfx_r hqm))) rfl (by have := hqo.2.2.1; omega)) rfl fun g35 h35 => ?_)
      have hql1 : (qzc (d.2.1.2[j].1, d.2.1.2[j].2.1, d.2.1.2[j].2.2.1, g35, d.2.1.2[j].2.2.2.2)).length = 35 := qc_len hqo.2.2.2
      refine GL.val (rv_field fo_31_2 rfl rfl) rfl ?_
      refine GL.step (ot_store1 (k := 1) (cs' := qzc (d.2.1.2[j].1, d.2.1.2[j].2.1, d.2.1.2[j].2.2.1, g35, d.2.1.2[j].2.2.2.2)) rfl rfl rfl rfl sz_27 rfl (by rw [hql]; decide) rfl ?_)
      refine GL.nil ?_
      refine GX.then ?_
      refine GC.reg ?_
      refine GL.val (rv_field fo_26_1 rfl rfl) rfl ?_
      refine GL.val (rv_load ag_23 rfl (Hd.cell (k := 2) rfl rfl)) rfl ?_
      refine GL.val (rv_loadAL ag_31 rfl (Hd.cellsAll (k := 1) rfl) (by exact sz_31) hql1) rfl ?_
      refine GL.step (ot_buildSlice ei_23 rfl rfl (bs_one hql1) rfl fm_one rfl fun b40 => ?_)
      refine GL.step (ot_append (k := 4) (news := qzc (d.2.1.2[j].1, d.2.1.2[j].2.1, d.2.1.2[j].2.2.1, g35, d.2.1.2[j].2.2.2.2)) ei_23 rfl rfl rfl (by rw [hql1]) (fun w h => .inr ⟨b40, 0, rfl, Hd.cellsAll (k := 0) rfl w h⟩) qc_one (by omega) (by decide) rfl fun A41 c41 z41 => ?_)
      refine GL.val (rv_field fo_26_1 rfl rfl) rfl ?_
      refine GL.step (ot_store (k := 3) rfl rfl rfl rfl sz_23 rfl rfl rfl ?_)
      refine GL.nil ?_
      refine GX.blk ?_
      refine GX.then ?_
      refine GC.reg ?_
      refine GL.val (rv_add rfl rfl (by omega) (by omega)) rfl ?_
      refine GL.val (rv_move rfl) rfl ?_
      refine GL.nil ?_
      exact GX.round (j + 1, qs1 ++ [(d.2.1.2[j].1, d.2.1.2[j].2.1, d.2.1.2[j].2.2.1, g35, d.2.1.2[j].2.2.2.2)], (A41, c41), [(g35.1, byts d.2.1.2[j].2.2.1)] ++ F) (by omega) ⟨by omega, by rw [List.map_append, hq1, List.take_succ_eq_append_getElem (by rw [List.length_map]; exact hlt), List.getElem_map]; rfl, by rw [List.map_append, ← List.append_assoc]; exact hs2.l.app (Sbs.cons (.inr (.inl (List.mem_cons_self ..))) (Sbs.nil _ _)), fun b hb => (List.mem_append.1 hb).elim (ho2 b) (fun hb => by obtain rfl := List.mem_singleton.1 hb; exact ⟨hqo.1, h35, hqo.2.2.1, hqo.2.2.2⟩)⟩ (by repeat (first | exact Sub.nil | refine Sub.cons rfl ?_)) (fun w9 h => by
          have h := h.sel [8, 7, 6, 4, 3, 5, 1] rfl rfl
          have h := h.roFrz (k := 0) rfl
          have h := h.frzNAdd
          have h := h.sel [5, 4, 3, 0, 2, 1] rfl rfl
          rw [fcat_app, fcat_one]
          exact h)
    · obtain rfl : j = d.2.1.2.length := by omega
      rw [List.take_of_length_le (by rw [List.length_map]; omega)] at hq1
      have hqll : qs1.length = d.2.1.2.length := by have := congrArg List.length hq1; rwa [List.length_map, List.length_map] at this
      refine GC.exit ?_
      refine GX.then_exit ?_
      refine GX.then_exit ?_
      refine GX.blk_eq ?_
      refine GX.then ?_
      refine GC.seq ?_
      refine GC.reg ?_
      refine GL.val (rv_loadAL ag_26 rfl (by exact Hd.cellsAll (k := 0) rfl) (by exact sz_26) (by (first | exact hql | exact hql1 | rfl))) rfl ?_
      refine GL.step (ot_store (k := 4) rfl rfl rfl rfl sz_26 rfl rfl (by ((simp only [repl, List.set_cons_zero, List.set_cons_succ]) <;> rfl)) ?_)
      refine GL.nil ?_
      refine GX.then ?_
      refine GC.ret ?_
      refine GX.ret1 rfl (RR.cellL ag_26 rfl (by exact Hd.cellsAll (k := 4) rfl) (by exact sz_26) (by (first | exact hql | exact hql1 | rfl))) ?_
      exact fun w9 h => ⟨(((rA, es1), (rQ, qs1), d.2.2), ([(rA.1, fcat ecell es1)] ++ [(rQ.1, fcat qzc qs1)]) ++ F), (by unfold dcell; dsimp only; rw [hel, hqll]), by
          have h := h.sel [2, 1, 3] rfl rfl
          have h := h.rowFrz (k := 0) rfl
          have h := h.rowFrz (k := 1) rfl
          have h := h.frzNAdd
          have h := h.frzNAdd
          exact h, ⟨by unfold dpl; dsimp only; rw [he, hq1], Sbs.cons (.inr (.inl (List.mem_cons_self ..))) (Sbs.cons (.inr (.inl (List.mem_cons_of_mem _ (List.mem_cons_self ..)))) hs2.l), ⟨ho, ho2, by dsimp only; omega, by dsimp only; omega⟩⟩⟩
end Go.Proofs.Ytkifeeiafachpaa
