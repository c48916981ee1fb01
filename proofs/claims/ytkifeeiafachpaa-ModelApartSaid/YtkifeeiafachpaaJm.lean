import Derived.Test.YtkifeeiafachpaaJl
set_option linter.unusedVariables false
set_option linter.unusedSimpArgs false
namespace Go.Proofs.Ytkifeeiafachpaa
open Go Go.RowKit Go.Bz

set_option maxRecDepth 100000 in
set_option maxHeartbeats 1000000 in
theorem rprune_c (d : DirZ) (to : UInt64) (w : World) (hD : Has w (dfx d)) (hok : dOk d) : Calls Try.prog 35 [.agg (dcell d).toArray, v64 to].toArray w fun e w' => ∃ g : DirZ × List Fact, e = .returned (.tuple #[.agg (dcell g.1).toArray, .int .i64 (pruneP (dpl d) to).1]) ∧ St noB w w' [frzN g.2] ∧ (dpl g.1 = (pruneP (dpl d) to).2 ∧ Sbs (dfx g.1) g.2 (dfx d) ∧ dOk g.1) := by
  refine GC.calls Try.func35 rfl rfl (St.begin _) ?_
  obtain ⟨hok1, hok2, hok3, hok4⟩ := id hok
  have hln : (dpl d).1.length = d.1.2.length := by show (d.1.2.map epl).length = _; rw [List.length_map]
  refine GC.seq ?_
  refine GC.reg ?_
  refine GL.step (ot_box rfl rfl rfl fun b2 => ?_)
  refine GL.step (ot_alloc (zs := [.slice none 0 0, .slice none 0 0, .int .u64 0]) zb_26 rfl rfl fun b4 => ?_)
  refine GL.val (rv_assign rfl) rfl ?_
  refine GL.nil ?_
  refine GX.then ?_
  refine GC.seq ?_
  refine GC.seq ?_
  refine GC.reg ?_
  refine GL.val (rv_loadA ag_26 rfl (Hd.cells (k := 1) rfl (us := dcell d) rfl) (by exact sz_26)) rfl ?_
  refine GL.step (ot_call hb_13 rfl (callOk fun w hh => rck_c d w (hD.lift hh) hok) rfl fun _ _ => ?_)
  refine GL.val (rv_assign rfl) rfl ?_
  refine GL.nil ?_
  refine GX.then ?_
  refine GC.seq ?_
  refine GC.reg ?_
  refine GL.val (rv_move rfl) rfl ?_
  refine GL.val (rv_neI rfl rfl) rfl ?_
  refine GL.nil ?_
  refine GX.then ?_
  refine GC.condP rfl (fun c10 => ?_) (fun c10 => ?_)
  · obtain ⟨hnc, hc1⟩ := ck_one c10
    rw [hc1]
    refine GC.seq ?_
    refine GC.reg ?_
    refine GL.val (rv_to (v' := .agg (dcell dz0).toArray) (rv_buildS pl_26 zb_26 rfl rfl rfl) rfl) rfl ?_
    refine GL.val (rv_move rfl) rfl ?_
    refine GL.step (ot_store (k := 0) rfl rfl rfl rfl sz_26 rfl rfl (show repl _ 0 (dcell dz0) = dcell dz0 from rfl) ?_)
    refine GL.val (rv_assign rfl) rfl ?_
    refine GL.nil ?_
    refine GX.then ?_
    refine GC.ret ?_
    refine GX.then_ret ?_
    refine GX.ret2 rfl (RR.cell ag_26 rfl (by exact Hd.cellsAll (k := 0) rfl) (by exact sz_26)) (RR.tmp rfl) ?_
    exact fun w9 h => ⟨(dz0, []), (by rw [prune_ck hnc] <;> rfl), by
        have h := h.sel [] rfl rfl
        have h := (h.take 0).frzN0
        exact h, ⟨by rw [prune_ck hnc] <;> rfl, dz0_fx _ _, dz0_ok⟩⟩
  · have hck : ckP (dpl d) := ck_iff.1 (Decidable.byContradiction c10)
    refine GC.skip ?_
    refine GX.then ?_
    refine GC.seq ?_
    refine GC.seq ?_
    refine GC.cutq (γ := Unit) [4, 2, 1] [1, 0] (fun g Lk => (22, .bool (decide (to.toNat < 1 ∨ d.1.2.length < to.toNat))) :: Lk) (fun g Fk => Fk) (fun g => True) rfl rfl ?_ (fun _ _ => ?_)
    · rcases (by omega : to.toNat < 1 ∨ (1 ≤ to.toNat ∧ d.1.2.length < to.toNat) ∨ (1 ≤ to.toNat ∧ to.toNat ≤ d.1.2.length)) with h | h | h
      · rw [show decide (to.toNat < 1 ∨ d.1.2.length < to.toNat) = true from decide_eq_true (by omega)]
        refine GC.reg ?_
        refine GL.val (rv_move rfl) rfl ?_
        refine GL.val ((by exact rv_to (v' := .bool true) (rv_lss rfl rfl) (congrArg Value.bool (decide_eq_true (by omega))))) rfl ?_
        refine GL.val (rv_move rfl) rfl ?_
        refine GL.skipG rfl rfl ?_
        refine GL.skipG rfl rfl ?_
        refine GL.skipG rfl rfl ?_
        refine GL.skipG rfl rfl ?_
        refine GL.skipG rfl rfl ?_
        refine GL.skipG rfl rfl ?_
        refine GL.val ((by exact rv_orT rfl rfl rfl)) rfl ?_
        refine GL.nil ?_
        exact GX.cutq () trivial (by repeat (first | exact Sub.nil | refine Sub.cons rfl ?_)) (fun w9 h => by
            exact h)
      · rw [show decide (to.toNat < 1 ∨ d.1.2.length < to.toNat) = true from decide_eq_true (by omega)]
        refine GC.reg ?_
        refine GL.val (rv_move rfl) rfl ?_
        refine GL.val ((by exact rv_to (v' := .bool false) (rv_lss rfl rfl) (congrArg Value.bool (decide_eq_false (by omega))))) rfl ?_
        refine GL.val (rv_move rfl) rfl ?_
        refine GL.valT rfl (rv_move rfl) rfl ?_
        refine GL.valT rfl (rv_field fo_26_0 rfl rfl) rfl ?_
        refine GL.valT rfl (rv_load ag_22 rfl (Hd.cell (k := 1) rfl rfl)) rfl ?_
        refine GL.valT rfl (rv_lenSl Try.underlying22 rfl) rfl ?_
        refine GL.valT rfl (rv_conv64I d.1.2.length Try.underlying3 Try.underlying24 rfl rfl) rfl ?_
        refine GL.valT rfl ((by exact rv_to (v' := .bool true) (rv_gtr rfl rfl) (congrArg Value.bool (decide_eq_true (by rw [ofNat_toNat64 (by omega)]; omega))))) rfl ?_
        refine GL.val ((by exact rv_orF rfl rfl rfl)) rfl ?_
        refine GL.nil ?_
        exact GX.cutq () trivial (by repeat (first | exact Sub.nil | refine Sub.cons rfl ?_)) (fun w9 h => by
            exact h)
      · rw [show decide (to.toNat < 1 ∨ d.1.2.length < to.toNat) = false from decide_eq_false (by omega)]
        refine GC.reg ?_
        refine GL.val (rv_move rfl) rfl ?_
        refine GL.val ((by exact rv_to (v' := .bool false) (rv_lss rfl rfl) (congrArg Value.bool (decide_eq_false (by omega))))) rfl ?_
        refine GL.val (rv_move rfl) rfl ?_
        refine GL.valT rfl (rv_move rfl) rfl ?_
        refine GL.valT rfl (rv_field fo_26_0 rfl rfl) rfl ?_
        refine GL.valT rfl (rv_load ag_22 rfl (Hd.cell (k := 1) rfl rfl)) rfl ?_
        refine GL.valT rfl (rv_lenSl Try.underlying22 rfl) rfl ?_
        refine GL.valT rfl (rv_conv64I d.1.2.length Try.underlying3 Try.underlying24 rfl rfl) rfl ?_
        refine GL.valT rfl ((by exact rv_to (v' := .bool false) (rv_gtr rfl rfl) (congrArg Value.bool (decide_eq_false (by rw [ofNat_toNat64 (by omega)]; omega))))) rfl ?_
        refine GL.val ((by exact rv_orF rfl rfl rfl)) rfl ?_
        refine GL.nil ?_
        exact GX.cutq () trivial (by repeat (first | exact Sub.nil | refine Sub.cons rfl ?_)) (fun w9 h => by
            exact h)
    refine GX.then ?_
    refine GC.condP rfl (fun c22 => ?_) (fun c22 => ?_)
    · have hfu : to.toNat < 1 ∨ (dpl d).1.length < to.toNat := by rw [hln]; exact c22
      refine GC.seq ?_
      refine GC.reg ?_
      refine GL.val (rv_to (v' := .agg (dcell dz0).toArray) (rv_buildS pl_26 zb_26 rfl rfl rfl) rfl) rfl ?_
      refine GL.step (ot_store (k := 0) rfl rfl rfl rfl sz_26 rfl rfl (show repl _ 0 (dcell dz0) = dcell dz0 from rfl) ?_)
      refine GL.val (rv_assign rfl) rfl ?_
      refine GL.nil ?_
      refine GX.then ?_
      refine GC.ret ?_
      refine GX.then_ret ?_
      refine GX.ret2 rfl (RR.cell ag_26 rfl (by exact Hd.cellsAll (k := 0) rfl) (by exact sz_26)) (RR.tmp rfl) ?_
      exact fun w9 h => ⟨(dz0, []), (by rw [prune_no hck hfu] <;> rfl), by
          have h := h.sel [] rfl rfl
          have h := (h.take 0).frzN0
          exact h, ⟨by rw [prune_no hck hfu] <;> rfl, dz0_fx _ _, dz0_ok⟩⟩
    · have hfu : ¬ (to.toNat < 1 ∨ (dpl d).1.length < to.toNat) := by rw [hln]; exact c22
      refine GC.skip ?_
      refine GX.then ?_
      refine GC.seq ?_
      refine GC.seq ?_
      refine GC.reg ?_
      refine GL.val (rv_field fo_26_2 rfl rfl) rfl ?_
      refine GL.val (rv_load ag_24 rfl (Hd.cell (k := 1) rfl rfl)) rfl ?_
      refine GL.val (rv_move rfl) rfl ?_
      refine GL.val (rv_lss rfl rfl) rfl ?_
      refine GL.nil ?_
      refine GX.then ?_
      refine GC.cutq (γ := Unit) [4, 2] [0] (fun g Lk => Lk) (fun g Fk => .cl b2 (dcell (d.1, d.2.1, (if d.2.2.toNat < to.toNat then to else d.2.2))) 26 :: Fk) (fun g => True) rfl rfl ?_ (fun _ _ => ?_)
      · refine GC.condP rfl (fun c27 => ?_) (fun c27 => ?_)
        · have hpm : (if d.2.2.toNat < to.toNat then to else d.2.2) = to := if_pos (by omega)
          refine GC.reg ?_
          refine GL.val (rv_move rfl) rfl ?_
          refine GL.val (rv_field fo_26_2 rfl rfl) rfl ?_
          refine GL.step (ot_store (k := 1) rfl rfl rfl rfl sz_24 rfl rfl (show repl (dcell d) 2 [v64 to] = dcell (d.1, d.2.1, to) from rfl) ?_)
          refine GL.nil ?_
          exact GX.cutq () trivial (by repeat (first | exact Sub.nil | refine Sub.cons rfl ?_)) (fun w9 h => by
              have h := h.sel [0, 1] rfl rfl
              rw [hpm]
              exact h)
        · have hpm : (if d.2.2.toNat < to.toNat then to else d.2.2) = d.2.2 := if_neg (by omega)
          refine GC.skip ?_
          exact GX.cutq () trivial (by repeat (first | exact Sub.nil | refine Sub.cons rfl ?_)) (fun w9 h => by
              have h := h.sel [0, 1] rfl rfl
              rw [hpm]
              exact h)
      refine GX.then ?_
      refine GC.seq ?_
      refine GC.reg ?_
      refine GL.val (rv_loadA ag_26 rfl (Hd.cells (k := 0) rfl (us := dcell (d.1, d.2.1, (if d.2.2.toNat < to.toNat then to else d.2.2))) rfl) (by exact sz_26)) rfl ?_
      refine GL.step (ot_store (k := 1) rfl rfl rfl rfl sz_26 rfl rfl (show repl _ 0 (dcell (d.1, d.2.1, (if d.2.2.toNat < to.toNat then to else d.2.2))) = dcell (d.1, d.2.1, (if d.2.2.toNat < to.toNat then to else d.2.2)) from rfl) ?_)
      refine GL.val (rv_assign rfl) rfl ?_
      refine GL.nil ?_
      refine GX.then ?_
      refine GC.ret ?_
      refine GX.ret2 rfl (RR.cell ag_26 rfl (by exact Hd.cellsAll (k := 1) rfl) (by exact sz_26)) (RR.tmp rfl) ?_
      exact fun w9 h => ⟨((d.1, d.2.1, (if d.2.2.toNat < to.toNat then to else d.2.2)), []), (by rw [prune_ok hck hfu]), by
          have h := h.sel [] rfl rfl
          have h := (h.take 0).frzN0
          exact h, ⟨by rw [prune_ok hck hfu]; rfl, Sbs.of _ (fun f hf => hf), hok⟩⟩
theorem sb_dm {d : DirZ} {q : ReqZ} {A : Option Addr} {c : Nat} {F : List Fact} (hA : (A, fcat qzc (d.2.1.2 ++ [q])) ∈ F) : Sbs (dfx (d.1, ((A, c), d.2.1.2 ++ [q]), d.2.2)) F (rfx q :: dfx d) := fun f hf => by
  unfold dfx at hf
  rcases List.mem_cons.1 hf with rfl | hf
  · exact .inr (.inr (List.mem_cons_of_mem _ (dfx_e d)))
  rcases List.mem_cons.1 hf with rfl | hf
  · exact .inr (.inl hA)
  rcases List.mem_append.1 hf with hf | hf
  · obtain ⟨e, he, h⟩ := List.mem_flatMap.1 hf; exact .inr (.inr (List.mem_cons_of_mem _ (dfx_ep (d := d) he _ h)))
  · obtain ⟨x, hx, rfl⟩ := List.mem_map.1 hf
    rcases List.mem_append.1 hx with hx | hx
    · exact .inr (.inr (List.mem_cons_of_mem _ (dfx_r (d := d) hx)))
    · obtain rfl := List.mem_singleton.1 hx; exact .inr (.inr (List.mem_cons_self ..))
theorem sb_de {d : DirZ} {z : EpZ} {A : Option Addr} {c : Nat} {F : List Fact} (hZ : Sbs (efx z) F (dfx d)) (hA : (A, fcat ecell (d.1.2 ++ [z])) ∈ F) : Sbs (dfx (((A, c), d.1.2 ++ [z]), ((none, 0), []), d.2.2)) F (dfx d) := fun f hf => by
  unfold dfx at hf
  rcases List.mem_cons.1 hf with rfl | hf
  · exact .inr (.inl hA)
  rcases List.mem_cons.1 hf with rfl | hf
  · exact .inl rfl
  rcases List.mem_append.1 hf with hf | hf
  · obtain ⟨e, he, h⟩ := List.mem_flatMap.1 hf
    rcases List.mem_append.1 he with he | he
    · exact .inr (.inr (dfx_ep (d := d) he _ h))
    · obtain rfl := List.mem_singleton.1 he; exact hZ _ h
  · cases hf
set_option maxRecDepth 100000 in
set_option maxHeartbeats 1000000 in
theorem rsubmit_c (d : DirZ) (w : World) (hD : Has w (dfx d)) (hok : dOk d) (q : ReqZ) (hQ : Has w [rfx q]) (hq : qOk q) : Calls Try.prog 29 [.agg (dcell d).toArray, .agg (qzc q).toArray].toArray w fun e w' => ∃ g : DirZ × List Fact, e = .returned (.tuple #[.agg (dcell g.1).toArray, .int .i64 (submitP (dpl d) (rpl q)).1]) ∧ St noB w w' [frzN g.2] ∧ (dpl g.1 = (submitP (dpl d) (rpl q)).2 ∧ Sbs (dfx g.1) g.2 (rfx q :: dfx d) ∧ dOk g.1) := by
  refine GC.calls Try.func29 rfl rfl (St.begin _) ?_
  obtain ⟨hok1, hok2, hok3, hok4⟩ := id hok
  have hql : (qzc q).length = 35 := qc_len hq.2.2.2
  have hQs : SlR w d.2.1.1.1 (fcat qzc d.2.1.2) := hD _ (dfx_q d)
  have hQl : (fcat qzc d.2.1.2).length = d.2.1.2.length * 35 := fcat_len (qz_len hok2)
  refine GC.seq ?_
  refine GC.reg ?_
  refine GL.step (ot_box rfl rfl rfl fun b2 => ?_)
  refine GL.step (ot_box rfl rfl rfl fun b3 => ?_)
  refine GL.step (ot_alloc (zs := [.slice none 0 0, .slice none 0 0, .int .u64 0]) zb_26 rfl rfl fun b4 => ?_)
  refine GL.val (rv_assign rfl) rfl ?_
  refine GL.nil ?_
  refine GX.then ?_
  refine GC.seq ?_
  refine GC.seq ?_
  refine GC.reg ?_
  refine GL.val (rv_loadA ag_26 rfl (Hd.cells (k := 2) rfl (us := dcell d) rfl) (by exact sz_26)) rfl ?_
  refine GL.step (ot_call hb_13 rfl (callOk fun w hh => rck_c d w (hD.lift hh) hok) rfl fun _ _ => ?_)
  refine GL.val (rv_assign rfl) rfl ?_
  refine GL.nil ?_
  refine GX.then ?_
  refine GC.seq ?_
  refine GC.reg ?_
  refine GL.val (rv_move rfl) rfl ?_
  refine GL.val (rv_neI rfl rfl) rfl ?_
  refine GL.nil ?_
  refine GX.then ?_
  refine GC.condP rfl (fun c15 => ?_) (fun c15 => ?_)
  · obtain ⟨hnc, hc1⟩ := ck_one c15
    rw [hc1]
    refine GC.seq ?_
    refine GC.reg ?_
    refine GL.val (rv_to (v' := .agg (dcell dz0).toArray) (rv_buildS pl_26 zb_26 rfl rfl rfl) rfl) rfl ?_
    refine GL.val (rv_move rfl) rfl ?_
    refine GL.step (ot_store (k := 0) rfl rfl rfl rfl sz_26 rfl rfl (show repl _ 0 (dcell dz0) = dcell dz0 from rfl) ?_)
    refine GL.val (rv_assign rfl) rfl ?_
    refine GL.nil ?_
    refine GX.then ?_
    refine GC.ret ?_
    refine GX.then_ret ?_
    refine GX.ret2 rfl (RR.cellL ag_26 rfl (by exact Hd.cellsAll (k := 0) rfl) (by exact sz_26) (by (first | exact hql | rfl))) (RR.tmp rfl) ?_
    exact fun w9 h => ⟨(dz0, []), (by rw [submit_ck hnc] <;> rfl), by
        have h := h.sel [] rfl rfl
        have h := (h.take 0).frzN0
        exact h, ⟨by rw [submit_ck hnc] <;> rfl, dz0_fx _ _, dz0_ok⟩⟩
  · have hck : ckP (dpl d) := ck_iff.1 (Decidable.byContradiction c15)
    refine GC.skip ?_
    refine GX.then ?_
    refine GC.seq ?_
    refine GC.reg ?_
    refine GL.val (rv_loadA ag_26 rfl (Hd.cells (k := 2) rfl (us := dcell d) rfl) (by exact sz_26)) rfl ?_
    refine GL.step (ot_call hb_28 rfl (callOk fun w hh => now_c d w (hD.lift hh) hok (ckP_rt hck)) rfl fun g20 h20 => ?_)
    obtain ⟨hp20, hs20, ho20⟩ := h20
    have hr20 : rightL (epl g20.1) := by rw [hp20]; exact now_right hck
    refine GL.val (rv_move rfl) rfl ?_
    refine GL.val (rv_extract rfl rfl) rfl ?_
    refine GL.val (rv_extract rfl rfl) rfl ?_
    refine GL.val (rv_assign rfl) rfl ?_
    refine GL.val (rv_assign rfl) rfl ?_
    refine GL.nil ?_
    refine GX.then ?_
    refine GC.seq ?_
    refine GC.seq ?_
    refine GC.reg ?_
    refine GL.val (rv_move rfl) rfl ?_
    refine GL.val (rv_loadAL ag_31 rfl (Hd.cellsAll (k := 2) rfl) (by exact sz_31) hql) rfl ?_
    refine GL.step (ot_call hb_45 rfl (callOk fun w hh => rdone_c g20.1.1.1 g20.1.1.2 g20.1.2 q w (hs20.has hh (k := 0) rfl hD) ho20 hr20 (hQ.lift hh) hq) rfl fun g26 _ => ?_)
    have hdn : dnE (g20.1.2.map bpl) (rpl q) = dnE (nowL (dpl d)) (rpl q) := congrArg (fun l => dnE l (rpl q)) hp20
    rw [hdn]
    refine GL.val (rv_move rfl) rfl ?_
    refine GL.val (rv_extract rfl rfl) rfl ?_
    refine GL.val (rv_extract rfl rfl) rfl ?_
    refine GL.val (rv_assign rfl) rfl ?_
    refine GL.val (rv_assign rfl) rfl ?_
    refine GL.nil ?_
    refine GX.then ?_
    refine GC.seq ?_
    refine GC.reg ?_
    refine GL.val (rv_move rfl) rfl ?_
    refine GL.val (rv_neI rfl rfl) rfl ?_
    refine GL.nil ?_
    refine GX.then ?_
    refine GC.condP rfl (fun c30 => ?_) (fun c30 => ?_)
    · have hde := c30
      refine GC.seq ?_
      refine GC.reg ?_
      refine GL.val (rv_to (v' := .agg (dcell dz0).toArray) (rv_buildS pl_26 zb_26 rfl rfl rfl) rfl) rfl ?_
      refine GL.val (rv_move rfl) rfl ?_
      refine GL.step (ot_store (k := 2) rfl rfl rfl rfl sz_26 rfl rfl (show repl _ 0 (dcell dz0) = dcell dz0 from rfl) ?_)
      refine GL.val (rv_assign rfl) rfl ?_
      refine GL.nil ?_
      refine GX.then ?_
      refine GC.ret ?_
      refine GX.then_ret ?_
      refine GX.ret2 rfl (RR.cellL ag_26 rfl (by exact Hd.cellsAll (k := 2) rfl) (by exact sz_26) (by (first | exact hql | rfl))) (RR.tmp rfl) ?_
      exact fun w9 h => ⟨(dz0, []), (by rw [submit_dn hck hde] <;> rfl), by
          have h := h.sel [] rfl rfl
          have h := (h.take 0).frzN0
          exact h, ⟨by rw [submit_dn hck hde] <;> rfl, dz0_fx _ _, dz0_ok⟩⟩
    · have hde : dnE (nowL (dpl d)) (rpl q) = 0 := Decidable.byContradiction c30
      refine GC.skip ?_
      refine GX.then ?_
      refine GC.seq ?_
      refine GC.seq ?_
      refine GC.reg ?_
      refine GL.val (rv_field fo_26_1 rfl rfl) rfl ?_
      refine GL.val (rv_load ag_23 rfl (Hd.cell (k := 4) rfl rfl)) rfl ?_
      refine GL.val (rv_lenSl Try.underlying23 rfl) rfl ?_
      refine GL.val (rv_geq rfl rfl) rfl ?_
      refine GL.nil ?_
      refine GX.then ?_
      refine GC.condP rfl (fun c36 => ?_) (fun c36 => ?_)
      · have hfu : 16 ≤ (dpl d).2.1.length := by show 16 ≤ (d.2.1.2.map rpl).length; rw [List.length_map]; omega
        refine GC.seq ?_
        refine GC.reg ?_
        refine GL.val (rv_to (v' := .agg (dcell dz0).toArray) (rv_buildS pl_26 zb_26 rfl rfl rfl) rfl) rfl ?_
        refine GL.step (ot_store (k := 2) rfl rfl rfl rfl sz_26 rfl rfl (show repl _ 0 (dcell dz0) = dcell dz0 from rfl) ?_)
        refine GL.val (rv_assign rfl) rfl ?_
        refine GL.nil ?_
        refine GX.then ?_
        refine GC.ret ?_
        refine GX.then_ret ?_
        refine GX.ret2 rfl (RR.cellL ag_26 rfl (by exact Hd.cellsAll (k := 2) rfl) (by exact sz_26) (by (first | exact hql | rfl))) (RR.tmp rfl) ?_
        exact fun w9 h => ⟨(dz0, []), (by rw [submit_full hck hde hfu] <;> rfl), by
            have h := h.sel [] rfl rfl
            have h := (h.take 0).frzN0
            exact h, ⟨by rw [submit_full hck hde hfu] <;> rfl, dz0_fx _ _, dz0_ok⟩⟩
      · have hfu : ¬ 16 ≤ (dpl d).2.1.length := by show ¬ 16 ≤ (d.2.1.2.map rpl).length; rw [List.length_map]; omega
        refine GC.skip ?_
        refine GX.then ?_
        refine GC.seq ?_
        refine GC.reg ?_
        refine GL.val (rv_assign rfl) rfl ?_
        refine GL.nil ?_
        refine GX.then ?_
        refine GC.seq ?_
        refine GC.reg ?_
        refine GL.val (rv_move rfl) rfl ?_
        refine GL.val (rv_field fo_26_1 rfl rfl) rfl ?_
        refine GL.val (rv_load ag_23 rfl (Hd.cell (k := 4) rfl rfl)) rfl ?_
        refine GL.st (Fs' := _) (fun w9 h => by
          have h := h.sel [4, 3, 2, 1, 0] rfl rfl
          have h := h.nilRow 31 35
          exact h) ?_
        refine GL.step (ot_append (k := 0) (news := fcat qzc d.2.1.2) ei_23 rfl rfl rfl hQl (fun w h => (h.rd0n hQs).imp (fun e => by rw [e] at hQl; simp at hQl; omega) fun ⟨b, o, e1, e2⟩ => ⟨b, o, e1, e2⟩) qz_one (by omega) (by decide) rfl fun A41 c41 z41 => ?_)
        rw [Nat.zero_add, List.nil_append]
        refine GL.val (rv_assign rfl) rfl ?_
        refine GL.nil ?_
        refine GX.then ?_
        refine GC.seq ?_
        refine GC.draw 9 [5, 4] mo_ ?_
        refine GD.pure1 (i := 0) rfl (fun _ _ => rv_field fo_26_0 rfl rfl) ?_
        refine GD.pure1 (i := 2) rfl (fun _ _ => rv_move rfl) ?_
        refine GD.pure1 (i := 6) rfl (fun _ _ => rv_field fo_26_2 rfl rfl) ?_
        refine GD.read1 (i := 1) rfl (rv_load ag_22 rfl (Hd.cell (k := 0) rfl rfl)) ?_
        refine GD.read1 (i := 3) rfl (rv_loadAL ag_31 rfl (Hd.cellsAll (k := 1) rfl) (by exact sz_31) hql) ?_
        refine GD.read1 (i := 7) rfl (rv_load ag_24 rfl (Hd.cell (k := 0) rfl rfl)) ?_
        refine GD.step (i := 4) (by kernel_rfl) rfl (ot_buildSlice ei_23 rfl rfl (bs_one hql) rfl fm_one rfl fun b46 => ⟨.inr fun _ h => h.pk [6, 5], ?_⟩)
        refine GD.step (i := 5) (by kernel_rfl) rfl (ot_append (k := 1) (news := qzc q) ei_23 rfl rfl rfl (by rw [hql]) (fun w h => .inr ⟨b46, 0, rfl, Hd.cellsAll (k := 0) rfl w h⟩) qc_one (by omega) (by decide) rfl fun A47 c47 z47 => ⟨.inr fun _ h => h.pk [6, 5], ?_⟩)
        refine GD.pure1 (i := 8) rfl (fun _ _ => rv_to (v' := .agg (dcell (d.1, ((A47, c47), d.2.1.2 ++ [q]), d.2.2)).toArray) (rv_buildS pl_26 zb_26 rfl rfl rfl) (by unfold dcell; dsimp only; rw [List.length_append]; rfl)) ?_
        refine GD.step (i := 9) (by kernel_rfl) rfl (ot_store (k := 4) rfl rfl rfl rfl sz_26 rfl rfl (show repl _ 0 (dcell (d.1, ((A47, c47), d.2.1.2 ++ [q]), d.2.2)) = dcell (d.1, ((A47, c47), d.2.1.2 ++ [q]), d.2.2) from rfl) ⟨.inl rfl, ?_⟩)
        refine GD.pure1 (i := 10) rfl (fun _ _ => rv_assign rfl) ?_
        refine GD.done (by kernel_rfl) ?_
        refine GX.then ?_
        refine GC.ret ?_
        refine GX.ret2 rfl (RR.cellL ag_26 rfl (by exact Hd.cellsAll (k := 4) rfl) (by exact sz_26) (by (first | exact hql | rfl))) (RR.tmp rfl) ?_
        exact fun w9 h => ⟨((d.1, ((A47, c47), d.2.1.2 ++ [q]), d.2.2), [(A47, fcat qzc (d.2.1.2 ++ [q]))]), (by rw [submit_ok hck hde hfu]), by
            have h := h.sel [1] rfl rfl
            have h := h.rowFrz (k := 0) rfl
            rw [fcat_app, fcat_one]
            exact h, ⟨by rw [submit_ok hck hde hfu]; unfold dpl; dsimp only; rw [List.map_append]; rfl, sb_dm (List.mem_singleton.2 rfl), ⟨hok1, fun x hx => (List.mem_append.1 hx).elim (hok2 x) (fun h => by obtain rfl := List.mem_singleton.1 h; exact hq), hok3, by dsimp only; simp only [List.length_append, List.length_singleton]; omega⟩⟩⟩
set_option maxRecDepth 100000 in
set_option maxHeartbeats 1000000 in
theorem rseal_c (d : DirZ) (w : World) (hD : Has w (dfx d)) (hok : dOk d) : Calls Try.prog 30 [.agg (dcell d).toArray].toArray w fun e w' => ∃ g : DirZ × List Fact, e = .returned (.tuple #[.agg (dcell g.1).toArray, .int .i64 (sealP (dpl d)).1]) ∧ St noB w w' [frzN g.2] ∧ (dpl g.1 = (sealP (dpl d)).2 ∧ Sbs (dfx g.1) g.2 (dfx d) ∧ dOk g.1) := by
  refine GC.calls Try.func30 rfl rfl (St.begin _) ?_
  obtain ⟨hok1, hok2, hok3, hok4⟩ := id hok
  have hEs : SlR w d.1.1.1 (fcat ecell d.1.2) := hD _ (dfx_e d)
  have hEl : (fcat ecell d.1.2).length = d.1.2.length * 1 := fcat_len ec_len
  refine GC.seq ?_
  refine GC.reg ?_
  refine GL.step (ot_box rfl rfl rfl fun b1 => ?_)
  refine GL.step (ot_alloc (zs := [.slice none 0 0, .slice none 0 0, .int .u64 0]) zb_26 rfl rfl fun b2 => ?_)
  refine GL.val (rv_assign rfl) rfl ?_
  refine GL.nil ?_
  refine GX.then ?_
  refine GC.seq ?_
  refine GC.seq ?_
  refine GC.reg ?_
  refine GL.val (rv_loadA ag_26 rfl (Hd.cells (k := 1) rfl (us := dcell d) rfl) (by exact sz_26)) rfl ?_
  refine GL.step (ot_call hb_13 rfl (callOk fun w hh => rck_c d w (hD.lift hh) hok) rfl fun _ _ => ?_)
  refine GL.val (rv_assign rfl) rfl ?_
  refine GL.nil ?_
  refine GX.then ?_
  refine GC.seq ?_
  refine GC.reg ?_
  refine GL.val (rv_move rfl) rfl ?_
  refine GL.val (rv_neI rfl rfl) rfl ?_
  refine GL.nil ?_
  refine GX.then ?_
  refine GC.condP rfl (fun c11 => ?_) (fun c11 => ?_)
  · obtain ⟨hnc, hc1⟩ := ck_one c11
    rw [hc1]
    refine GC.seq ?_
    refine GC.reg ?_
    refine GL.val (rv_to (v' := .agg (dcell dz0).toArray) (rv_buildS pl_26 zb_26 rfl rfl rfl) rfl) rfl ?_
    refine GL.val (rv_move rfl) rfl ?_
    refine GL.step (ot_store (k := 0) rfl rfl rfl rfl sz_26 rfl rfl (show repl _ 0 (dcell dz0) = dcell dz0 from rfl) ?_)
    refine GL.val (rv_assign rfl) rfl ?_
    refine GL.nil ?_
    refine GX.then ?_
    refine GC.ret ?_
    refine GX.then_ret ?_
    refine GX.ret2 rfl (RR.cell ag_26 rfl (by exact Hd.cellsAll (k := 0) rfl) (by exact sz_26)) (RR.tmp rfl) ?_
    exact fun w9 h => ⟨(dz0, []), (by rw [seal_ck hnc] <;> rfl), by
        have h := h.sel [] rfl rfl
        have h := (h.take 0).frzN0
        exact h, ⟨by rw [seal_ck hnc] <;> rfl, dz0_fx _ _, dz0_ok⟩⟩
  · have hck : ckP (dpl d) := ck_iff.1 (Decidable.byContradiction c11)
    refine GC.skip ?_
    refine GX.then ?_
    refine GC.seq ?_
    refine GC.seq ?_
    refine GC.reg ?_
    refine GL.val (rv_field fo_26_0 rfl rfl) rfl ?_
    refine GL.val (rv_load ag_22 rfl (Hd.cell (k := 1) rfl rfl)) rfl ?_
    refine GL.val (rv_lenSl Try.underlying22 rfl) rfl ?_
    refine GL.val (rv_geq rfl rfl) rfl ?_
    refine GL.nil ?_
    refine GX.then ?_
    refine GC.condP rfl (fun c17 => ?_) (fun c17 => ?_)
    · have hfu : 64 ≤ (dpl d).1.length := by show 64 ≤ (d.1.2.map epl).length; rw [List.length_map]; omega
      refine GC.seq ?_
      refine GC.reg ?_
      refine GL.val (rv_to (v' := .agg (dcell dz0).toArray) (rv_buildS pl_26 zb_26 rfl rfl rfl) rfl) rfl ?_
      refine GL.step (ot_store (k := 0) rfl rfl rfl rfl sz_26 rfl rfl (show repl _ 0 (dcell dz0) = dcell dz0 from rfl) ?_)
      refine GL.val (rv_assign rfl) rfl ?_
      refine GL.nil ?_
      refine GX.then ?_
      refine GC.ret ?_
      refine GX.then_ret ?_
      refine GX.ret2 rfl (RR.cell ag_26 rfl (by exact Hd.cellsAll (k := 0) rfl) (by exact sz_26)) (RR.tmp rfl) ?_
      exact fun w9 h => ⟨(dz0, []), (by rw [seal_full hck hfu] <;> rfl), by
          have h := h.sel [] rfl rfl
          have h := (h.take 0).frzN0
          exact h, ⟨by rw [seal_full hck hfu] <;> rfl, dz0_fx _ _, dz0_ok⟩⟩
    · have hfu : ¬ 64 ≤ (dpl d).1.length := by show ¬ 64 ≤ (d.1.2.map epl).length; rw [List.length_map]; omega
      refine GC.skip ?_
      refine GX.then ?_
      refine GC.seq ?_
      refine GC.reg ?_
      refine GL.val (rv_loadA ag_26 rfl (Hd.cells (k := 1) rfl (us := dcell d) rfl) (by exact sz_26)) rfl ?_
      refine GL.step (ot_call hb_28 rfl (callOk fun w hh => now_c d w (hD.lift hh) hok (ckP_rt hck)) rfl fun g21 h21 => ?_)
      obtain ⟨hp21, hs21, ho21⟩ := h21
      refine GL.val (rv_move rfl) rfl ?_
      refine GL.val (rv_extract rfl rfl) rfl ?_
      refine GL.val (rv_extract rfl rfl) rfl ?_
      refine GL.val (rv_assign rfl) rfl ?_
      refine GL.val (rv_assign rfl) rfl ?_
      refine GL.nil ?_
      refine GX.then ?_
      refine GC.seq ?_
      refine GC.reg ?_
      refine GL.val (rv_assign rfl) rfl ?_
      refine GL.nil ?_
      refine GX.then ?_
      refine GC.seq ?_
      refine GC.reg ?_
      refine GL.val (rv_move rfl) rfl ?_
      refine GL.val (rv_field fo_26_0 rfl rfl) rfl ?_
      refine GL.val (rv_load ag_22 rfl (Hd.cell (k := 2) rfl rfl)) rfl ?_
      refine GL.st (Fs' := _) (fun w9 h => by
        have h := h.sel [2, 1, 0] rfl rfl
        have h := h.nilRow 46 1
        exact h) ?_
      refine GL.step (ot_append (k := 0) (news := fcat ecell d.1.2) ei_22 rfl rfl rfl hEl (fun w h => (h.rd0n hEs).imp (fun e => by rw [e] at hEl; simp at hEl; omega) fun ⟨b, o, e1, e2⟩ => ⟨b, o, e1, e2⟩) ec_one (by omega) (by decide) rfl fun A27 c27 z27 => ?_)
      rw [Nat.zero_add, List.nil_append]
      refine GL.val (rv_assign rfl) rfl ?_
      refine GL.nil ?_
      refine GX.then ?_
      refine GC.seq ?_
      refine GC.draw 7 [3] mo_ ?_
      refine GD.pure1 (i := 0) rfl (fun _ _ => rv_move rfl) ?_
      refine GD.pure1 (i := 1) rfl (fun _ _ => rv_move rfl) ?_
      refine GD.pure1 (i := 4) rfl (fun _ _ => rv_field fo_26_2 rfl rfl) ?_
      refine GD.read1 (i := 5) rfl (rv_load ag_24 rfl (Hd.cell (k := 0) rfl rfl)) ?_
      refine GD.step (i := 2) (by kernel_rfl) rfl (ot_buildSlice ei_22 rfl rfl rfl rfl rfl rfl fun b30 => ⟨.inr fun _ h => h.pk [4], ?_⟩)
      refine GD.step (i := 3) (by kernel_rfl) rfl (ot_append (k := 1) (news := ecell g21.1) ei_22 rfl rfl rfl rfl (fun w h => .inr ⟨b30, 0, rfl, Hd.cellsAll (k := 0) rfl w h⟩) rfl (by omega) (by decide) rfl fun A31 c31 z31 => ⟨.inr fun _ h => h.pk [4], ?_⟩)
      refine GD.pure1 (i := 6) rfl (fun _ _ => rv_to (v' := .agg (dcell (((A31, c31), d.1.2 ++ [g21.1]), ((none, 0), []), d.2.2)).toArray) (rv_buildS pl_26 zb_26 rfl rfl rfl) (by unfold dcell; dsimp only; rw [List.length_append]; rfl)) ?_
      refine GD.step (i := 7) (by kernel_rfl) rfl (ot_store (k := 3) rfl rfl rfl rfl sz_26 rfl rfl (show repl _ 0 (dcell (((A31, c31), d.1.2 ++ [g21.1]), ((none, 0), []), d.2.2)) = dcell (((A31, c31), d.1.2 ++ [g21.1]), ((none, 0), []), d.2.2) from rfl) ⟨.inl rfl, ?_⟩)
      refine GD.pure1 (i := 8) rfl (fun _ _ => rv_assign rfl) ?_
      refine GD.done (by kernel_rfl) ?_
      refine GX.then ?_
      refine GC.ret ?_
      refine GX.ret2 rfl (RR.cell ag_26 rfl (by exact Hd.cellsAll (k := 3) rfl) (by exact sz_26)) (RR.tmp rfl) ?_
      exact fun w9 h => ⟨((((A31, c31), d.1.2 ++ [g21.1]), ((none, 0), []), d.2.2), [(A31, fcat ecell (d.1.2 ++ [g21.1]))] ++ g21.2), (by rw [seal_ok hck hfu]), by
          have h := h.sel [2, 1] rfl rfl
          have h := h.rowFrz (k := 0) rfl
          have h := h.frzNAdd
          rw [fcat_app, fcat_one]
          exact h, ⟨by rw [seal_ok hck hfu]; unfold dpl; dsimp only; rw [List.map_append, List.map_singleton, hp21]; rfl, sb_de hs21.l (List.mem_cons_self ..), ⟨fun x hx => (List.mem_append.1 hx).elim (hok1 x) (fun h => by obtain rfl := List.mem_singleton.1 h; exact ho21), fun q h => (by cases h), by dsimp only; simp only [List.length_append, List.length_singleton]; omega, Nat.zero_le _⟩⟩⟩
end Go.Proofs.Ytkifeeiafachpaa
