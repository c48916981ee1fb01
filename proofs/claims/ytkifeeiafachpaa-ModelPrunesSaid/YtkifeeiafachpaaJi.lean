import Derived.Test.YtkifeeiafachpaaJh
set_option linter.unusedVariables false
set_option linter.unusedSimpArgs false
namespace Go.Proofs.Ytkifeeiafachpaa
open Go Go.RowKit Go.Bz
theorem hb_12 : hasBody Try.prog 12 = true := by kernel_rfl
theorem hb_38 : hasBody Try.prog 38 = true := by kernel_rfl
theorem hb_40 : hasBody Try.prog 40 = true := by kernel_rfl
theorem hb_41 : hasBody Try.prog 41 = true := by kernel_rfl
/-! the acts, plain -/
def d00 : Dz := ([], [], 0)
def nowL (d : Dz) : List Bd := (wt (lastL d.1) d.2.1).2
def submitP (d : Dz) (q : Rq) : Int × Dz := if ¬ ckP d then (1, d00) else if dnE (nowL d) q ≠ 0 then (dnE (nowL d) q, d00) else if 16 ≤ d.2.1.length then (9, d00) else (0, (d.1, d.2.1 ++ [q], d.2.2))
def sealP (d : Dz) : Int × Dz := if ¬ ckP d then (1, d00) else if 64 ≤ d.1.length then (12, d00) else (0, (d.1 ++ [nowL d], [], d.2.2))
def pruneP (d : Dz) (to : UInt64) : Int × Dz := if ¬ ckP d then (1, d00) else if to.toNat < 1 ∨ d.1.length < to.toNat then (10, d00) else (0, (d.1, d.2.1, if d.2.2.toNat < to.toNat then to else d.2.2))
def ansE (d : Dz) (e : UInt64) : Int := if e.toNat < 1 ∨ d.1.length < e.toNat then 10 else if e.toNat < d.2.2.toNat then 11 else 0
theorem submit_ck {d : Dz} {q : Rq} (h : ¬ ckP d) : submitP d q = (1, d00) := if_pos h
theorem submit_dn {d : Dz} {q : Rq} (h : ckP d) (k : dnE (nowL d) q ≠ 0) : submitP d q = (dnE (nowL d) q, d00) := by unfold submitP; rw [if_neg (fun x => x h), if_pos k]
theorem submit_full {d : Dz} {q : Rq} (h : ckP d) (k : dnE (nowL d) q = 0) (f : 16 ≤ d.2.1.length) : submitP d q = (9, d00) := by unfold submitP; rw [if_neg (fun x => x h), if_neg (fun x => x k), if_pos f]
theorem submit_ok {d : Dz} {q : Rq} (h : ckP d) (k : dnE (nowL d) q = 0) (f : ¬ 16 ≤ d.2.1.length) : submitP d q = (0, (d.1, d.2.1 ++ [q], d.2.2)) := by unfold submitP; rw [if_neg (fun x => x h), if_neg (fun x => x k), if_neg f]
theorem seal_ck {d : Dz} (h : ¬ ckP d) : sealP d = (1, d00) := if_pos h
theorem seal_full {d : Dz} (h : ckP d) (f : 64 ≤ d.1.length) : sealP d = (12, d00) := by unfold sealP; rw [if_neg (fun x => x h), if_pos f]
theorem seal_ok {d : Dz} (h : ckP d) (f : ¬ 64 ≤ d.1.length) : sealP d = (0, (d.1 ++ [nowL d], [], d.2.2)) := by unfold sealP; rw [if_neg (fun x => x h), if_neg f]
theorem prune_ck {d : Dz} {to : UInt64} (h : ¬ ckP d) : pruneP d to = (1, d00) := if_pos h
theorem prune_no {d : Dz} {to : UInt64} (h : ckP d) (f : to.toNat < 1 ∨ d.1.length < to.toNat) : pruneP d to = (10, d00) := by unfold pruneP; rw [if_neg (fun x => x h), if_pos f]
theorem prune_ok {d : Dz} {to : UInt64} (h : ckP d) (f : ¬ (to.toNat < 1 ∨ d.1.length < to.toNat)) : pruneP d to = (0, (d.1, d.2.1, if d.2.2.toNat < to.toNat then to else d.2.2)) := by unfold pruneP; rw [if_neg (fun x => x h), if_neg f]
theorem ck_iff {d : Dz} : ckE d = 0 ↔ ckP d := by
  unfold ckE
  by_cases h : ckP d
  · rw [if_pos h]; exact ⟨fun _ => h, fun _ => rfl⟩
  · rw [if_neg h]; exact ⟨fun k => (by cases k), fun k => absurd k h⟩
theorem ck_one {d : Dz} (h : ckE d ≠ 0) : ¬ ckP d ∧ ckE d = 1 := ⟨fun k => h (ck_iff.2 k), ck_no fun k => h (ck_iff.2 k)⟩
def dz0 : DirZ := (((none, 0), []), ((none, 0), []), 0)
theorem dz0_ok : dOk dz0 := ⟨fun e h => (by cases h), fun q h => (by cases h), Nat.zero_le _, Nat.zero_le _⟩
theorem dz0_fx (F I : List Fact) : Sbs (dfx dz0) F I := Sbs.cons (.inl rfl) (Sbs.cons (.inl rfl) (Sbs.nil _ _))
theorem ckP_rt {d : DirZ} (h : ckP (dpl d)) : ∀ e ∈ d.1.2, rightL (epl e) := fun e he => h.2.1 _ (List.mem_map_of_mem he)
theorem rt_keys {l : List BindZ} (h : rightL (l.map bpl)) : ∀ b ∈ l, b.2.1.length ≤ 1000000 := fun b hb => by
  have := (chk_inv (h.1 (bpl b) (List.mem_map_of_mem hb)).1).2.2
  have : b.2.1.length ≤ 64 := this
  omega
theorem ckP_keys {d : DirZ} (h : ckP (dpl d)) : ∀ e ∈ d.1.2, ∀ b ∈ e.2, b.2.1.length ≤ 1000000 := fun e he => rt_keys (ckP_rt h e he)
theorem now_right {d : DirZ} (h : ckP (dpl d)) : rightL (nowL (dpl d)) := wt_right (lastL_right h.2.1) h.2.2
theorem has_dm {w : World} {d : DirZ} {q : ReqZ} {A : Option Addr} {c : Nat} (hD : Has w (dfx d)) (hQ : Has w [rfx q]) (hA : SlR w A (fcat qzc (d.2.1.2 ++ [q]))) : Has w (dfx (d.1, ((A, c), d.2.1.2 ++ [q]), d.2.2)) := fun f hf => by
  unfold dfx at hf
  rcases List.mem_cons.1 hf with rfl | hf
  · exact hD _ (dfx_e d)
  rcases List.mem_cons.1 hf with rfl | hf
  · exact hA
  rcases List.mem_append.1 hf with hf | hf
  · obtain ⟨e, he, h⟩ := List.mem_flatMap.1 hf; exact hD _ (dfx_ep (d := d) he _ h)
  · obtain ⟨x, hx, rfl⟩ := List.mem_map.1 hf
    rcases List.mem_append.1 hx with hx | hx
    · exact hD _ (dfx_r (d := d) hx)
    · obtain rfl := List.mem_singleton.1 hx; exact hQ _ (List.mem_singleton.2 rfl)
theorem has_de {w : World} {d : DirZ} {z : EpZ} {A : Option Addr} {c : Nat} (hD : Has w (dfx d)) (hZ : Has w (efx z)) (hA : SlR w A (fcat ecell (d.1.2 ++ [z]))) : Has w (dfx (((A, c), d.1.2 ++ [z]), ((none, 0), []), d.2.2)) := fun f hf => by
  unfold dfx at hf
  rcases List.mem_cons.1 hf with rfl | hf
  · exact hA
  rcases List.mem_cons.1 hf with rfl | hf
  · exact .inl rfl
  rcases List.mem_append.1 hf with hf | hf
  · obtain ⟨e, he, h⟩ := List.mem_flatMap.1 hf
    rcases List.mem_append.1 he with he | he
    · exact hD _ (dfx_ep (d := d) he _ h)
    · obtain rfl := List.mem_singleton.1 he; exact hZ _ h
  · cases hf
theorem Sbs.up {R F I : List Fact} (h : Sbs R F []) : Sbs R F I := fun f hf => (h f hf).imp id fun h => h.imp id fun h => by cases h
set_option maxRecDepth 100000 in
set_option maxHeartbeats 1000000 in
theorem submit_c (d : DirZ) (w : World) (hD : Has w (dfx d)) (hok : dOk d) (q : ReqZ) (hQ : Has w [rfx q]) (hq : qOk q) : Calls Try.prog 23 [.agg (dcell d).toArray, .agg (qzc q).toArray].toArray w fun e w' => ∃ g : DirZ × List Fact, e = .returned (.tuple #[.agg (dcell g.1).toArray, .int .i64 (submitP (dpl d) (rpl q)).1]) ∧ St noB w w' [frzN g.2] ∧ (dpl g.1 = (submitP (dpl d) (rpl q)).2 ∧ Sbs (dfx g.1) g.2 (([] : List Fact)) ∧ dOk g.1) := by
  refine GC.calls Try.func23 rfl rfl (St.begin _) ?_
  obtain ⟨hok1, hok2, hok3, hok4⟩ := id hok
  have hql : (qzc q).length = 35 := qc_len hq.2.2.2
  refine GC.seq ?_
  refine GC.reg ?_
  refine GL.step (ot_box rfl rfl rfl fun b2 => ?_)
  refine GL.step (ot_box rfl rfl rfl fun b3 => ?_)
  refine GL.step (ot_alloc (zs := [.slice none 0 0, .slice none 0 0, .int .u64 0]) zb_26 rfl rfl fun b4 => ?_)
  refine GL.val (rv_assign rfl) rfl ?_
  refine GL.nil ?_
  refine GX.then ?_
  refine GC.seq ?_
  refine GC.seq ?_
  refine GC.reg ?_
  refine GL.val (rv_loadA ag_26 rfl (Hd.cells (k := 2) rfl (us := dcell d) rfl) (by exact sz_26)) rfl ?_
  refine GL.step (ot_call hb_12 rfl (callOk fun w hh => ck_c d w (hD.lift hh) hok) rfl fun _ _ => ?_)
  refine GL.val (rv_assign rfl) rfl ?_
  refine GL.nil ?_
  refine GX.then ?_
  refine GC.seq ?_
  refine GC.reg ?_
  refine GL.val (rv_move rfl) rfl ?_
  refine GL.val (rv_neI rfl rfl) rfl ?_
  refine GL.nil ?_
  refine GX.then ?_
  refine GC.condP rfl (fun c14 => ?_) (fun c14 => ?_)
  · obtain ⟨hnc, hc1⟩ := ck_one c14
    rw [hc1]
    refine GC.seq ?_
    refine GC.reg ?_
    refine GL.val (rv_to (v' := .agg (dcell dz0).toArray) (rv_buildS pl_26 zb_26 rfl rfl rfl) rfl) rfl ?_
    refine GL.val (rv_move rfl) rfl ?_
    refine GL.step (ot_store (k := 0) rfl rfl rfl rfl sz_26 rfl rfl (show repl _ 0 (dcell dz0) = dcell dz0 from rfl) ?_)
    refine GL.val (rv_assign rfl) rfl ?_
    refine GL.nil ?_
    refine GX.then ?_
    refine GC.ret ?_
    refine GX.then_ret ?_
    refine GX.ret2 rfl (RR.cellL ag_26 rfl (by exact Hd.cellsAll (k := 0) rfl) (by exact sz_26) (by (first | exact hql | rfl))) (RR.tmp rfl) ?_
    exact fun w9 h => ⟨(dz0, []), (by rw [submit_ck hnc] <;> rfl), by
        have h := h.sel [] rfl rfl
        have h := (h.take 0).frzN0
        exact h, ⟨by rw [submit_ck hnc] <;> rfl, dz0_fx _ _, dz0_ok⟩⟩
  · have hck : ckP (dpl d) := ck_iff.1 (Decidable.byContradiction c14)
    refine GC.skip ?_
    refine GX.then ?_
    refine GC.seq ?_
    refine GC.reg ?_
    refine GL.val (rv_loadA ag_26 rfl (Hd.cells (k := 2) rfl (us := dcell d) rfl) (by exact sz_26)) rfl ?_
    refine GL.step (ot_call hb_26 rfl (callOk fun w hh => wait_c d w (hD.lift hh) hok (ckP_rt hck)) rfl fun g19 h19 => ?_)
    obtain ⟨hp19, hs19, ho19⟩ := h19
    have hr19 : rightL (epl g19.1) := by rw [hp19]; exact now_right hck
    refine GL.val (rv_move rfl) rfl ?_
    refine GL.val (rv_extract rfl rfl) rfl ?_
    refine GL.val (rv_extract rfl rfl) rfl ?_
    refine GL.val (rv_assign rfl) rfl ?_
    refine GL.val (rv_assign rfl) rfl ?_
    refine GL.nil ?_
    refine GX.then ?_
    refine GC.seq ?_
    refine GC.seq ?_
    refine GC.reg ?_
    refine GL.val (rv_move rfl) rfl ?_
    refine GL.val (rv_loadAL ag_31 rfl (Hd.cellsAll (k := 2) rfl) (by exact sz_31) hql) rfl ?_
    refine GL.step (ot_call hb_39 rfl (callOk fun w hh => done_c g19.1.1.1 g19.1.1.2 g19.1.2 q w (hs19.has hh (k := 0) rfl hD) ho19 hr19 (hQ.lift hh) hq) rfl fun g25 _ => ?_)
    have hdn : dnE (g19.1.2.map bpl) (rpl q) = dnE (nowL (dpl d)) (rpl q) := congrArg (fun l => dnE l (rpl q)) hp19
    rw [hdn]
    refine GL.val (rv_move rfl) rfl ?_
    refine GL.val (rv_extract rfl rfl) rfl ?_
    refine GL.val (rv_extract rfl rfl) rfl ?_
    refine GL.val (rv_assign rfl) rfl ?_
    refine GL.val (rv_assign rfl) rfl ?_
    refine GL.nil ?_
    refine GX.then ?_
    refine GC.seq ?_
    refine GC.reg ?_
    refine GL.val (rv_move rfl) rfl ?_
    refine GL.val (rv_neI rfl rfl) rfl ?_
    refine GL.nil ?_
    refine GX.then ?_
    refine GC.condP rfl (fun c29 => ?_) (fun c29 => ?_)
    · have hde := c29
      refine GC.seq ?_
      refine GC.reg ?_
      refine GL.val (rv_to (v' := .agg (dcell dz0).toArray) (rv_buildS pl_26 zb_26 rfl rfl rfl) rfl) rfl ?_
      refine GL.val (rv_move rfl) rfl ?_
      refine GL.step (ot_store (k := 2) rfl rfl rfl rfl sz_26 rfl rfl (show repl _ 0 (dcell dz0) = dcell dz0 from rfl) ?_)
      refine GL.val (rv_assign rfl) rfl ?_
      refine GL.nil ?_
      refine GX.then ?_
      refine GC.ret ?_
      refine GX.then_ret ?_
      refine GX.ret2 rfl (RR.cellL ag_26 rfl (by exact Hd.cellsAll (k := 2) rfl) (by exact sz_26) (by (first | exact hql | rfl))) (RR.tmp rfl) ?_
      exact fun w9 h => ⟨(dz0, []), (by rw [submit_dn hck hde] <;> rfl), by
          have h := h.sel [] rfl rfl
          have h := (h.take 0).frzN0
          exact h, ⟨by rw [submit_dn hck hde] <;> rfl, dz0_fx _ _, dz0_ok⟩⟩
    · have hde : dnE (nowL (dpl d)) (rpl q) = 0 := Decidable.byContradiction c29
      refine GC.skip ?_
      refine GX.then ?_
      refine GC.seq ?_
      refine GC.seq ?_
      refine GC.reg ?_
      refine GL.val (rv_field fo_26_1 rfl rfl) rfl ?_
      refine GL.val (rv_load ag_23 rfl (Hd.cell (k := 4) rfl rfl)) rfl ?_
      refine GL.val (rv_lenSl Try.underlying23 rfl) rfl ?_
      refine GL.val (rv_geq rfl rfl) rfl ?_
      refine GL.nil ?_
      refine GX.then ?_
      refine GC.condP rfl (fun c35 => ?_) (fun c35 => ?_)
      · have hfu : 16 ≤ (dpl d).2.1.length := by show 16 ≤ (d.2.1.2.map rpl).length; rw [List.length_map]; omega
        refine GC.seq ?_
        refine GC.reg ?_
        refine GL.val (rv_to (v' := .agg (dcell dz0).toArray) (rv_buildS pl_26 zb_26 rfl rfl rfl) rfl) rfl ?_
        refine GL.step (ot_store (k := 2) rfl rfl rfl rfl sz_26 rfl rfl (show repl _ 0 (dcell dz0) = dcell dz0 from rfl) ?_)
        refine GL.val (rv_assign rfl) rfl ?_
        refine GL.nil ?_
        refine GX.then ?_
        refine GC.ret ?_
        refine GX.then_ret ?_
        refine GX.ret2 rfl (RR.cellL ag_26 rfl (by exact Hd.cellsAll (k := 2) rfl) (by exact sz_26) (by (first | exact hql | rfl))) (RR.tmp rfl) ?_
        exact fun w9 h => ⟨(dz0, []), (by rw [submit_full hck hde hfu] <;> rfl), by
            have h := h.sel [] rfl rfl
            have h := (h.take 0).frzN0
            exact h, ⟨by rw [submit_full hck hde hfu] <;> rfl, dz0_fx _ _, dz0_ok⟩⟩
      · have hfu : ¬ 16 ≤ (dpl d).2.1.length := by show ¬ 16 ≤ (d.2.1.2.map rpl).length; rw [List.length_map]; omega
        refine GC.skip ?_
        refine GX.then ?_
        refine GC.seq ?_
        refine GC.draw 7 [4, 3] mo_ ?_
        refine GD.pure1 (i := 0) rfl (fun _ _ => rv_field fo_26_1 rfl rfl) ?_
        refine GD.read1 (i := 1) rfl (rv_load ag_23 rfl (Hd.cell (k := 0) rfl rfl)) ?_
        refine GD.read1 (i := 3) rfl (rv_loadAL ag_31 rfl (Hd.cellsAll (k := 1) rfl) (by exact sz_31) hql) ?_
        refine GD.eachN2 (i := 2) (j := 4) (by kernel_rfl) rfl rfl ?_ ?_
        · refine ot_call hb_40 rfl (callOk fun w hh => cloneQ_c d.2.1.1.1 d.2.1.2.length d.2.1.1.2 (fcat qzc d.2.1.2) w (hh.rd0n (hD _ (dfx_q d))) (fcat_len (qz_len hok2)) qz_one (by omega)) rfl fun g39 _ => ⟨.inr fun _ h => h.pk [5, 4], ?_⟩
          refine GD.step (i := 4) (by kernel_rfl) rfl (ot_buildSlice ei_23 rfl rfl (bs_one hql) rfl fm_one rfl fun b41 => ⟨.inr fun _ h => h.pk [6, 5], ?_⟩)
          refine GD.step (i := 5) (by kernel_rfl) rfl (ot_append (k := 1) (news := qzc q) ei_23 rfl rfl rfl (by rw [hql]) (fun w h => .inr ⟨b41, 0, rfl, Hd.cellsAll (k := 0) rfl w h⟩) qc_one (by omega) (by decide) rfl fun A42 c42 z42 => ⟨.inr fun _ h => h.pk [6, 5], ?_⟩)
          refine GD.pure1 (i := 6) rfl (fun _ _ => rv_field fo_26_1 rfl rfl) ?_
          refine GD.step (i := 7) (by kernel_rfl) rfl (ot_store (k := 6) rfl rfl rfl rfl sz_23 rfl rfl rfl ⟨.inl rfl, ?_⟩)
          refine GD.done (by kernel_rfl) ?_
          refine GX.then ?_
          refine GC.seq ?_
          refine GC.reg ?_
          refine GL.val (rv_to (v' := .agg (dcell (d.1, ((A42, c42), d.2.1.2 ++ [q]), d.2.2)).toArray) (rv_loadA ag_26 rfl (Hd.cellsAll (k := 6) rfl) (by exact sz_26)) (by unfold dcell; dsimp only; rw [List.length_append]; rfl)) rfl ?_
          refine GL.step (ot_call hb_38 rfl (callOk fun w hh => own_c (d.1, ((A42, c42), d.2.1.2 ++ [q]), d.2.2) w (has_dm (hD.lift hh) (hQ.lift hh) (by have h1 := hh.rowR (k := 1) rfl; rwa [← fcat_one qzc q, ← fcat_app] at h1)) ⟨hok1, fun x hx => (List.mem_append.1 hx).elim (hok2 x) (fun h => by obtain rfl := List.mem_singleton.1 h; exact hq), hok3, by dsimp only; simp only [List.length_append, List.length_singleton]; omega⟩ (ckP_keys (d := d) hck)) rfl fun g45 h45 => ?_)
          refine GL.step (ot_store (k := 5) rfl rfl rfl rfl sz_26 rfl rfl (show repl _ 0 (dcell g45.1) = dcell g45.1 from rfl) ?_)
          refine GL.val (rv_assign rfl) rfl ?_
          refine GL.nil ?_
          refine GX.then ?_
          refine GC.ret ?_
          obtain ⟨hp45, hs45, ho45⟩ := h45
          refine GX.ret2 rfl (RR.cellL ag_26 rfl (by exact Hd.cellsAll (k := 5) rfl) (by exact sz_26) (by (first | exact hql | rfl))) (RR.tmp rfl) ?_
          exact fun w9 h => ⟨g45, (by rw [submit_ok hck hde hfu]), by
              have h := h.sel [0] rfl rfl
              exact h, ⟨by rw [submit_ok hck hde hfu, hp45]; unfold dpl; dsimp only; rw [List.map_append]; rfl, hs45.up, ho45⟩⟩
        · refine ot_buildSlice ei_23 rfl rfl (bs_one hql) rfl fm_one rfl fun b41 => ⟨.inr fun _ h => h.pk [5, 4], ?_⟩
          refine GD.step (i := 2) (by kernel_rfl) rfl (ot_call hb_40 rfl (callOk fun w hh => cloneQ_c d.2.1.1.1 d.2.1.2.length d.2.1.1.2 (fcat qzc d.2.1.2) w (hh.rd0n (hD _ (dfx_q d))) (fcat_len (qz_len hok2)) qz_one (by omega)) rfl fun g39 _ => ⟨.inr fun _ h => h.pk [6, 5], ?_⟩)
          refine GD.step (i := 5) (by kernel_rfl) rfl (ot_append (k := 0) (news := qzc q) ei_23 rfl rfl rfl (by rw [hql]) (fun w h => .inr ⟨b41, 0, rfl, Hd.cellsAll (k := 1) rfl w h⟩) qc_one (by omega) (by decide) rfl fun A42 c42 z42 => ⟨.inr fun _ h => h.pk [6, 5], ?_⟩)
          refine GD.pure1 (i := 6) rfl (fun _ _ => rv_field fo_26_1 rfl rfl) ?_
          refine GD.step (i := 7) (by kernel_rfl) rfl (ot_store (k := 6) rfl rfl rfl rfl sz_23 rfl rfl rfl ⟨.inl rfl, ?_⟩)
          refine GD.done (by kernel_rfl) ?_
          refine GX.then ?_
          refine GC.seq ?_
          refine GC.reg ?_
          refine GL.val (rv_to (v' := .agg (dcell (d.1, ((A42, c42), d.2.1.2 ++ [q]), d.2.2)).toArray) (rv_loadA ag_26 rfl (Hd.cellsAll (k := 6) rfl) (by exact sz_26)) (by unfold dcell; dsimp only; rw [List.length_append]; rfl)) rfl ?_
          refine GL.step (ot_call hb_38 rfl (callOk fun w hh => own_c (d.1, ((A42, c42), d.2.1.2 ++ [q]), d.2.2) w (has_dm (hD.lift hh) (hQ.lift hh) (by have h1 := hh.rowR (k := 0) rfl; rwa [← fcat_one qzc q, ← fcat_app] at h1)) ⟨hok1, fun x hx => (List.mem_append.1 hx).elim (hok2 x) (fun h => by obtain rfl := List.mem_singleton.1 h; exact hq), hok3, by dsimp only; simp only [List.length_append, List.length_singleton]; omega⟩ (ckP_keys (d := d) hck)) rfl fun g45 h45 => ?_)
          refine GL.step (ot_store (k := 5) rfl rfl rfl rfl sz_26 rfl rfl (show repl _ 0 (dcell g45.1) = dcell g45.1 from rfl) ?_)
          refine GL.val (rv_assign rfl) rfl ?_
          refine GL.nil ?_
          refine GX.then ?_
          refine GC.ret ?_
          obtain ⟨hp45, hs45, ho45⟩ := h45
          refine GX.ret2 rfl (RR.cellL ag_26 rfl (by exact Hd.cellsAll (k := 5) rfl) (by exact sz_26) (by (first | exact hql | rfl))) (RR.tmp rfl) ?_
          exact fun w9 h => ⟨g45, (by rw [submit_ok hck hde hfu]), by
              have h := h.sel [0] rfl rfl
              exact h, ⟨by rw [submit_ok hck hde hfu, hp45]; unfold dpl; dsimp only; rw [List.map_append]; rfl, hs45.up, ho45⟩⟩
set_option maxRecDepth 100000 in
set_option maxHeartbeats 1000000 in
theorem seal_c (d : DirZ) (w : World) (hD : Has w (dfx d)) (hok : dOk d) : Calls Try.prog 24 [.agg (dcell d).toArray].toArray w fun e w' => ∃ g : DirZ × List Fact, e = .returned (.tuple #[.agg (dcell g.1).toArray, .int .i64 (sealP (dpl d)).1]) ∧ St noB w w' [frzN g.2] ∧ (dpl g.1 = (sealP (dpl d)).2 ∧ Sbs (dfx g.1) g.2 (([] : List Fact)) ∧ dOk g.1) := by
  refine GC.calls Try.func24 rfl rfl (St.begin _) ?_
  obtain ⟨hok1, hok2, hok3, hok4⟩ := id hok
  refine GC.seq ?_
  refine GC.reg ?_
  refine GL.step (ot_box rfl rfl rfl fun b1 => ?_)
  refine GL.step (ot_alloc (zs := [.slice none 0 0, .slice none 0 0, .int .u64 0]) zb_26 rfl rfl fun b2 => ?_)
  refine GL.val (rv_assign rfl) rfl ?_
  refine GL.nil ?_
  refine GX.then ?_
  refine GC.seq ?_
  refine GC.seq ?_
  refine GC.reg ?_
  refine GL.val (rv_loadA ag_26 rfl (Hd.cells (k := 1) rfl (us := dcell d) rfl) (by exact sz_26)) rfl ?_
  refine GL.step (ot_call hb_12 rfl (callOk fun w hh => ck_c d w (hD.lift hh) hok) rfl fun _ _ => ?_)
  refine GL.val (rv_assign rfl) rfl ?_
  refine GL.nil ?_
  refine GX.then ?_
  refine GC.seq ?_
  refine GC.reg ?_
  refine GL.val (rv_move rfl) rfl ?_
  refine GL.val (rv_neI rfl rfl) rfl ?_
  refine GL.nil ?_
  refine GX.then ?_
  refine GC.condP rfl (fun c10 => ?_) (fun c10 => ?_)
  · obtain ⟨hnc, hc1⟩ := ck_one c10
    rw [hc1]
    refine GC.seq ?_
    refine GC.reg ?_
    refine GL.val (rv_to (v' := .agg (dcell dz0).toArray) (rv_buildS pl_26 zb_26 rfl rfl rfl) rfl) rfl ?_
    refine GL.val (rv_move rfl) rfl ?_
    refine GL.step (ot_store (k := 0) rfl rfl rfl rfl sz_26 rfl rfl (show repl _ 0 (dcell dz0) = dcell dz0 from rfl) ?_)
    refine GL.val (rv_assign rfl) rfl ?_
    refine GL.nil ?_
    refine GX.then ?_
    refine GC.ret ?_
    refine GX.then_ret ?_
    refine GX.ret2 rfl (RR.cell ag_26 rfl (by exact Hd.cellsAll (k := 0) rfl) (by exact sz_26)) (RR.tmp rfl) ?_
    exact fun w9 h => ⟨(dz0, []), (by rw [seal_ck hnc] <;> rfl), by
        have h := h.sel [] rfl rfl
        have h := (h.take 0).frzN0
        exact h, ⟨by rw [seal_ck hnc] <;> rfl, dz0_fx _ _, dz0_ok⟩⟩
  · have hck : ckP (dpl d) := ck_iff.1 (Decidable.byContradiction c10)
    refine GC.skip ?_
    refine GX.then ?_
    refine GC.seq ?_
    refine GC.seq ?_
    refine GC.reg ?_
    refine GL.val (rv_field fo_26_0 rfl rfl) rfl ?_
    refine GL.val (rv_load ag_22 rfl (Hd.cell (k := 1) rfl rfl)) rfl ?_
    refine GL.val (rv_lenSl Try.underlying22 rfl) rfl ?_
    refine GL.val (rv_geq rfl rfl) rfl ?_
    refine GL.nil ?_
    refine GX.then ?_
    refine GC.condP rfl (fun c16 => ?_) (fun c16 => ?_)
    · have hfu : 64 ≤ (dpl d).1.length := by show 64 ≤ (d.1.2.map epl).length; rw [List.length_map]; omega
      refine GC.seq ?_
      refine GC.reg ?_
      refine GL.val (rv_to (v' := .agg (dcell dz0).toArray) (rv_buildS pl_26 zb_26 rfl rfl rfl) rfl) rfl ?_
      refine GL.step (ot_store (k := 0) rfl rfl rfl rfl sz_26 rfl rfl (show repl _ 0 (dcell dz0) = dcell dz0 from rfl) ?_)
      refine GL.val (rv_assign rfl) rfl ?_
      refine GL.nil ?_
      refine GX.then ?_
      refine GC.ret ?_
      refine GX.then_ret ?_
      refine GX.ret2 rfl (RR.cell ag_26 rfl (by exact Hd.cellsAll (k := 0) rfl) (by exact sz_26)) (RR.tmp rfl) ?_
      exact fun w9 h => ⟨(dz0, []), (by rw [seal_full hck hfu] <;> rfl), by
          have h := h.sel [] rfl rfl
          have h := (h.take 0).frzN0
          exact h, ⟨by rw [seal_full hck hfu] <;> rfl, dz0_fx _ _, dz0_ok⟩⟩
    · have hfu : ¬ 64 ≤ (dpl d).1.length := by show ¬ 64 ≤ (d.1.2.map epl).length; rw [List.length_map]; omega
      refine GC.skip ?_
      refine GX.then ?_
      refine GC.seq ?_
      refine GC.reg ?_
      refine GL.val (rv_loadA ag_26 rfl (Hd.cells (k := 1) rfl (us := dcell d) rfl) (by exact sz_26)) rfl ?_
      refine GL.step (ot_call hb_26 rfl (callOk fun w hh => wait_c d w (hD.lift hh) hok (ckP_rt hck)) rfl fun g20 h20 => ?_)
      obtain ⟨hp20, hs20, ho20⟩ := h20
      have hr20 : rightL (epl g20.1) := by rw [hp20]; exact now_right hck
      refine GL.val (rv_move rfl) rfl ?_
      refine GL.val (rv_extract rfl rfl) rfl ?_
      refine GL.val (rv_extract rfl rfl) rfl ?_
      refine GL.val (rv_assign rfl) rfl ?_
      refine GL.val (rv_assign rfl) rfl ?_
      refine GL.nil ?_
      refine GX.then ?_
      refine GC.seq ?_
      refine GC.reg ?_
      refine GL.val (rv_field fo_26_0 rfl rfl) rfl ?_
      refine GL.val (rv_load ag_22 rfl (Hd.cell (k := 2) rfl rfl)) rfl ?_
      refine GL.step (ot_call hb_41 rfl (callOk fun w hh => cloneE_c d.1.1.1 d.1.2.length d.1.1.2 (fcat ecell d.1.2) w (hh.rd0n (hD _ (dfx_e d))) (fcat_len ec_len) ec_one (by omega)) rfl fun g25 _ => ?_)
      refine GL.val (rv_move rfl) rfl ?_
      refine GL.step (ot_buildSlice ei_22 rfl rfl rfl rfl rfl rfl fun b27 => ?_)
      refine GL.step (ot_append (k := 1) (news := ecell g20.1) ei_22 rfl rfl rfl rfl (fun w h => .inr ⟨b27, 0, rfl, Hd.cellsAll (k := 0) rfl w h⟩) rfl (by omega) (by decide) rfl fun A28 c28 z28 => ?_)
      refine GL.val (rv_field fo_26_0 rfl rfl) rfl ?_
      refine GL.step (ot_store (k := 4) rfl rfl rfl rfl sz_22 rfl rfl rfl ?_)
      refine GL.val (rv_field fo_26_1 rfl rfl) rfl ?_
      refine GL.step (ot_store (k := 4) rfl rfl rfl rfl sz_23 rfl rfl rfl ?_)
      refine GL.nil ?_
      refine GX.then ?_
      refine GC.seq ?_
      refine GC.reg ?_
      refine GL.val (rv_to (v' := .agg (dcell (((A28, c28), d.1.2 ++ [g20.1]), ((none, 0), []), d.2.2)).toArray) (rv_loadA ag_26 rfl (Hd.cellsAll (k := 4) rfl) (by exact sz_26)) (by unfold dcell; dsimp only; rw [List.length_append]; rfl)) rfl ?_
      refine GL.step (ot_call hb_38 rfl (callOk fun w hh => own_c (((A28, c28), d.1.2 ++ [g20.1]), ((none, 0), []), d.2.2) w (has_de (hD.lift hh) (hs20.has hh (k := 2) rfl hD) (by have h1 := hh.rowR (k := 1) rfl; rwa [← fcat_one ecell g20.1, ← fcat_app] at h1)) ⟨fun x hx => (List.mem_append.1 hx).elim (hok1 x) (fun h => by obtain rfl := List.mem_singleton.1 h; exact ho20), fun q h => (by cases h), by dsimp only; simp only [List.length_append, List.length_singleton]; omega, Nat.zero_le _⟩ (fun x hx => (List.mem_append.1 hx).elim (ckP_keys (d := d) hck x) (fun h => by obtain rfl := List.mem_singleton.1 h; exact rt_keys hr20))) rfl fun g32 h32 => ?_)
      refine GL.step (ot_store (k := 4) rfl rfl rfl rfl sz_26 rfl rfl (show repl _ 0 (dcell g32.1) = dcell g32.1 from rfl) ?_)
      refine GL.val (rv_assign rfl) rfl ?_
      refine GL.nil ?_
      refine GX.then ?_
      refine GC.ret ?_
      obtain ⟨hp32, hs32, ho32⟩ := h32
      refine GX.ret2 rfl (RR.cell ag_26 rfl (by exact Hd.cellsAll (k := 4) rfl) (by exact sz_26)) (RR.tmp rfl) ?_
      exact fun w9 h => ⟨g32, (by rw [seal_ok hck hfu]), by
          have h := h.sel [0] rfl rfl
          exact h, ⟨by rw [seal_ok hck hfu, hp32]; unfold dpl; dsimp only; rw [List.map_append, List.map_singleton, hp20]; rfl, hs32.up, ho32⟩⟩
end Go.Proofs.Ytkifeeiafachpaa
