import Derived.Test.YtkifeeiafachpaaJk
import Derived.Test.YtkifeeiafachpaaJr
set_option linter.unusedVariables false
set_option linter.unusedSimpArgs false
namespace Go.Proofs.Ytkifeeiafachpaa
open Go Go.RowKit Go.Bz
theorem es_70 : elemSz Try.prog 70 = some 5 := by kernel_rfl
theorem hb_13 : hasBody Try.prog 13 = true := by kernel_rfl
theorem hb_32 : hasBody Try.prog 32 = true := by kernel_rfl
theorem hb_46 : hasBody Try.prog 46 = true := by kernel_rfl
theorem hb_47 : hasBody Try.prog 47 = true := by kernel_rfl
theorem one_of_map2 {l : List FndZ} {x : Fd} (h : l.map fpl = [x]) : ∃ z, l = [z] ∧ fpl z = x := by
  cases l with
  | nil => cases h
  | cons z l =>
    cases l with
    | nil => exact ⟨z, rfl, by simpa using h⟩
    | cons y l => simp at h
theorem fz0_ok : fOk fz0 := ⟨by decide, Nat.le_refl _⟩
set_option maxRecDepth 100000 in
set_option maxHeartbeats 1000000 in
theorem look_c (d : DirZ) (nm : ByteArray) (ep : UInt64) (w : World) (hD : Has w (dfx d)) (hok : dOk d) (hnm : nm.size < 4611686018427387904) : Calls Try.prog 20 [.agg (dcell d).toArray, .string nm, v64 ep].toArray w fun e w' => ∃ g : FndZ × List Fact, e = .returned (.tuple #[.agg (fzc g.1).toArray, .int .i64 (lookP (dpl d) nm ep).1]) ∧ St noB w w' [frzN g.2] ∧ (fpl g.1 = (lookP (dpl d) nm ep).2 ∧ Sbs [zfx g.1] g.2 (dfx d) ∧ fOk g.1) := by
  refine GC.calls Try.func20 rfl rfl (St.begin _) ?_
  obtain ⟨lh1, lh2, lh3⟩ := look_hist (d := dpl d) (nm := nm) (e := ep)
  rw [lh1]
  refine GC.seq ?_
  refine GC.reg ?_
  refine GL.step (ot_box rfl rfl rfl fun b3 => ?_)
  refine GL.step (ot_alloc (zs := [.int .u64 0, .bool false, .string ByteArray.empty, .slice none 0 0, .int .u64 0]) zb_55 rfl rfl fun b6 => ?_)
  refine GL.val (rv_assign rfl) rfl ?_
  refine GL.nil ?_
  refine GX.then ?_
  refine GC.seq ?_
  refine GC.reg ?_
  refine GL.val (rv_loadA ag_26 rfl (Hd.cells (k := 1) rfl (us := dcell d) rfl) (by exact sz_26)) rfl ?_
  refine GL.val (rv_move rfl) rfl ?_
  refine GL.val (rv_move rfl) rfl ?_
  refine GL.val (rv_move rfl) rfl ?_
  refine GL.step (ot_call hb_32 rfl (callOk fun w hh => hist_c d nm ep ep w (hD.lift hh) hok hnm) rfl fun g15 h15 => ?_)
  obtain ⟨⟨⟨fA, fc⟩, fl⟩, fF⟩ := g15
  obtain ⟨hp15, hs15, ho15⟩ := h15
  dsimp only at hp15 hs15 ho15 ⊢
  refine GL.val (rv_move rfl) rfl ?_
  refine GL.val (rv_extract rfl rfl) rfl ?_
  refine GL.val (rv_extract rfl rfl) rfl ?_
  refine GL.val (rv_assign rfl) rfl ?_
  refine GL.val (rv_assign rfl) rfl ?_
  refine GL.nil ?_
  refine GX.then ?_
  refine GC.seq ?_
  refine GC.seq ?_
  refine GC.reg ?_
  refine GL.val (rv_move rfl) rfl ?_
  refine GL.val (rv_neI rfl rfl) rfl ?_
  refine GL.nil ?_
  refine GX.then ?_
  refine GC.condP rfl (fun c19 => ?_) (fun c19 => ?_)
  · skip
    refine GC.seq ?_
    refine GC.reg ?_
    refine GL.val (rv_to (v' := .agg (fzc fz0).toArray) (rv_buildS pl_55 zb_55 rfl rfl rfl) rfl) rfl ?_
    refine GL.val (rv_move rfl) rfl ?_
    refine GL.step (ot_store (k := 1) rfl rfl rfl rfl sz_55 rfl rfl (show repl _ 0 (fzc fz0) = fzc fz0 from rfl) ?_)
    refine GL.val (rv_assign rfl) rfl ?_
    refine GL.nil ?_
    refine GX.then ?_
    refine GC.ret ?_
    refine GX.then_ret ?_
    refine GX.ret2 rfl (RR.cell ag_55 rfl (by exact Hd.cellsAll (k := 1) rfl) (by exact sz_55)) (RR.tmp rfl) ?_
    exact fun w9 h => ⟨(fz0, []), rfl, by
        have h := h.sel [] rfl rfl
        have h := (h.take 0).frzN0
        exact h, ⟨by rw [lh3 c19]; rfl, Sbs.cons (.inl rfl) (Sbs.nil _ _), fz0_ok⟩⟩
  · have he0 : (histP (dpl d) nm ep ep).1 = 0 := Decidable.byContradiction c19
    rw [lh2 he0] at hp15
    obtain ⟨z9, rfl, hz9⟩ := one_of_map2 hp15
    refine GC.fact (p := ∃ b o, fA = some ⟨b, o, none⟩) (fun w9 h9 => by obtain ⟨b, o, h, _⟩ := slr_some ((hs15.has h9 (k := 0) rfl hD) (fA, fcat fzc [z9]) (List.mem_cons_self ..)) (by simp [fcat, fzc]); exact ⟨b, o, h⟩) fun hf9 => ?_
    obtain ⟨b9, o9, rfl⟩ := hf9
    rw [he0]
    refine GC.skip ?_
    refine GX.then ?_
    refine GC.seq ?_
    refine GC.reg ?_
    refine GL.val (rv_move rfl) rfl ?_
    refine GL.val (rv_elemJ (q := o9) 0 es_70 rfl rfl rfl (by simp) (by omega)) rfl ?_
    refine GL.val (rv_loadA ag_55 rfl (fun w9 h9 => slr_cells (us := fzc z9) (by have h8 := (hs15.has h9 (k := 0) rfl hD) (some ⟨b9, o9, none⟩, fcat fzc [z9]) (List.mem_cons_self ..); rwa [fcat_one] at h8) (by simp [fzc])) (by exact sz_55)) rfl ?_
    refine GL.step (ot_store (k := 1) rfl rfl rfl rfl sz_55 rfl rfl (show repl _ 0 (fzc z9) = fzc z9 from rfl) ?_)
    refine GL.val (rv_assign rfl) rfl ?_
    refine GL.nil ?_
    refine GX.then ?_
    refine GC.ret ?_
    refine GX.ret2 rfl (RR.cell ag_55 rfl (by exact Hd.cellsAll (k := 1) rfl) (by exact sz_55)) (RR.tmp rfl) ?_
    exact fun w9 h => ⟨(z9, fF), rfl, by
        have h := h.sel [0] rfl rfl
        exact h, ⟨hz9, hs15.sub (fun f hf => by obtain rfl := List.mem_singleton.1 hf; exact List.mem_cons_of_mem _ (List.mem_map_of_mem (List.mem_singleton.2 rfl))), ho15 _ (List.mem_singleton.2 rfl)⟩⟩
def epAt (d : DirZ) (e : UInt64) : EpZ := d.1.2.getD (e.toNat - 1) ((none, 0), [])
def fdF (d : DirZ) (nm : ByteArray) (e : UInt64) : FndZ := (e, (fdZ (epAt d e).2 nm).isSome, (fdZ (epAt d e).2 nm).getD bz0)
theorem epAt_get {d : DirZ} {e : UInt64} (h : e.toNat - 1 < d.1.2.length) : epAt d e = d.1.2[e.toNat - 1] := by
  unfold epAt; rw [List.getD_eq_getElem?_getD, List.getElem?_eq_getElem h]; rfl
theorem fdF_pl (d : DirZ) (nm : ByteArray) (e : UInt64) : fpl (fdF d nm e) = fdP ((dpl d).1.getD (e.toNat - 1) []) nm e := by
  have h : (dpl d).1.getD (e.toNat - 1) [] = (epAt d e).2.map bpl := by
    unfold epAt dpl
    simp only [List.getD_eq_getElem?_getD, List.getElem?_map]
    cases d.1.2[e.toNat - 1]? <;> rfl
  unfold fdP fpl fdF
  rw [h, fdZ_pl]
  cases fdZ (epAt d e).2 nm <;> rfl
theorem fdF_mem {d : DirZ} {nm : ByteArray} {e : UInt64} (h : e.toNat - 1 < d.1.2.length) : (fdF d nm e).2.2 ∈ d.1.2[e.toNat - 1].2 ∨ (fdF d nm e).2.2 = bz0 := by
  unfold fdF; rw [epAt_get h]; exact fdZ_mem
theorem fdF_fx {d : DirZ} {nm : ByteArray} {e : UInt64} (h : e.toNat - 1 < d.1.2.length) (F : List Fact) : Sbs [zfx (fdF d nm e)] F (dfx d) := by
  refine Sbs.cons ?_ (Sbs.nil _ _)
  rcases fdF_mem (nm := nm) h with k | k
  · exact .inr (.inr (dfx_ep (List.getElem_mem h) _ (efx_b k)))
  · unfold zfx; rw [k]; exact .inl rfl
theorem fdF_ok {d : DirZ} {nm : ByteArray} {e : UInt64} (h : e.toNat - 1 < d.1.2.length) (hok : dOk d) : fOk (fdF d nm e) := by
  rcases fdF_mem (nm := nm) h with k | k
  · exact (hok.1 _ (List.getElem_mem h)).1 _ k
  · unfold fOk; rw [k]; exact ⟨by decide, Nat.le_refl _⟩
set_option maxRecDepth 100000 in
set_option maxHeartbeats 1000000 in
theorem found_c (d : DirZ) (nm : ByteArray) (ep : UInt64) (w : World) (hD : Has w (dfx d)) (hok : dOk d) (h1 : 1 ≤ ep.toNat) (h2 : ep.toNat ≤ d.1.2.length) : Calls Try.prog 47 [.agg (dcell d).toArray, .string nm, v64 ep].toArray w fun e w' => ∃ _g : Unit, e = .returned (.agg (fzc (fdF d nm ep)).toArray) ∧ St noB w w' [] ∧ True := by
  refine GC.calls Try.func47 rfl rfl (St.begin _) ?_
  obtain ⟨hok1, hok2, hok3, hok4⟩ := id hok
  have hlt : ep.toNat - 1 < d.1.2.length := by omega
  have hem : d.1.2[ep.toNat - 1] ∈ d.1.2 := List.getElem_mem _
  obtain ⟨be, oe, hAe, hCe⟩ := slr_some (hD _ (dfx_e d)) (fcat_ne ec_len (by decide) hlt)
  replace hAe : d.1.1.1 = some ⟨be, oe, none⟩ := hAe
  replace hCe : Cells w be oe (fcat ecell d.1.2) := hCe
  have hRe : SlR w d.1.2[ep.toNat - 1].1.1 (fcat bzc d.1.2[ep.toNat - 1].2) := hD _ (dfx_ep hem _ (efx_hd _))
  have hff : fdF d nm ep = (ep, (fdZ d.1.2[ep.toNat - 1].2 nm).isSome, (fdZ d.1.2[ep.toNat - 1].2 nm).getD bz0) := by unfold fdF; rw [epAt_get hlt]
  refine GC.seq ?_
  refine GC.reg ?_
  refine GL.step (ot_box rfl rfl rfl fun b3 => ?_)
  refine GL.step (ot_alloc (zs := [.int .u64 0, .bool false, .string ByteArray.empty, .slice none 0 0, .int .u64 0]) zb_55 rfl rfl fun b6 => ?_)
  refine GL.nil ?_
  refine GX.then ?_
  refine GC.seq ?_
  refine GC.reg ?_
  refine GL.val (rv_field fo_26_0 rfl rfl) rfl ?_
  refine GL.val (rv_load ag_22 rfl (Hd.cell (k := 1) rfl rfl)) rfl ?_
  refine GL.val (rv_move rfl) rfl ?_
  refine GL.val (rv_sub64 (b := 1) rfl rfl) rfl ?_
  refine GL.val (rv_elemJ (q := oe + (ep.toNat - 1) * 1) (ep.toNat - 1) es_22 (by rw [hAe]; rfl) rfl (by rw [sub1 h1]) hlt rfl) rfl ?_
  refine GL.val (rv_load ag_46 rfl (Hd.cell0 ((hCe.fcat ec_len ((ep.toNat - 1)) hlt) 0 _ rfl) (fun h => h))) rfl ?_
  refine GL.val (rv_move rfl) rfl ?_
  refine GL.step (ot_call hb_18 rfl (callOk fun w hh => find_c d.1.2[ep.toNat - 1].1.1 d.1.2[ep.toNat - 1].1.2 d.1.2[ep.toNat - 1].2 nm w (hh.rd0n hRe) (hok1 _ hem).2.1) rfl fun _ _ => ?_)
  refine GL.val (rv_move rfl) rfl ?_
  refine GL.val (rv_extract rfl rfl) rfl ?_
  refine GL.val (rv_extract rfl rfl) rfl ?_
  refine GL.step (ot_alloc (zs := [.string ByteArray.empty, .slice none 0 0, .int .u64 0]) zb_49 rfl rfl fun b7 => ?_)
  refine GL.step (ot_store (k := 0) rfl rfl rfl rfl sz_49 rfl rfl (show repl _ 0 (bzc ((fdZ d.1.2[ep.toNat - 1].2 nm).getD bz0)) = bzc ((fdZ d.1.2[ep.toNat - 1].2 nm).getD bz0) from rfl) ?_)
  refine GL.val (rv_assign rfl) rfl ?_
  refine GL.nil ?_
  refine GX.then ?_
  refine GC.seq ?_
  refine GC.reg ?_
  refine GL.val (rv_move rfl) rfl ?_
  refine GL.val (rv_move rfl) rfl ?_
  refine GL.val (rv_loadA ag_49 rfl (Hd.cells (k := 0) rfl (us := bzc ((fdZ d.1.2[ep.toNat - 1].2 nm).getD bz0)) rfl) (by exact sz_49)) rfl ?_
  refine GL.val (rv_to (v' := .agg (fzc (ep, (fdZ d.1.2[ep.toNat - 1].2 nm).isSome, (fdZ d.1.2[ep.toNat - 1].2 nm).getD bz0)).toArray) (rv_buildS pl_55 zb_55 rfl rfl rfl) rfl) rfl ?_
  refine GL.step (ot_store (k := 1) rfl rfl rfl rfl sz_55 rfl rfl (show repl _ 0 (fzc (ep, (fdZ d.1.2[ep.toNat - 1].2 nm).isSome, (fdZ d.1.2[ep.toNat - 1].2 nm).getD bz0)) = fzc (ep, (fdZ d.1.2[ep.toNat - 1].2 nm).isSome, (fdZ d.1.2[ep.toNat - 1].2 nm).getD bz0) from rfl) ?_)
  refine GL.nil ?_
  refine GX.then ?_
  refine GC.ret ?_
  refine GX.ret1 rfl (RR.cell ag_55 rfl (by exact Hd.cellsAll (k := 1) rfl) (by exact sz_55)) ?_
  exact fun w9 h => ⟨(), (by rw [hff]), by
      have h := h.sel [] rfl rfl
      exact h, trivial⟩
theorem look_ck {d : Dz} {nm : ByteArray} {e : UInt64} (h : ¬ ckP d) : lookP d nm e = (1, f0) := if_pos h
theorem look_nm {d : Dz} {nm : ByteArray} {e : UInt64} (h : ckP d) (k : okn nm = false) : lookP d nm e = (4, f0) := by unfold lookP; rw [if_neg (fun x => x h), if_pos k]
theorem look_an {d : Dz} {nm : ByteArray} {e : UInt64} (h : ckP d) (k : okn nm = true) (a : ansE d e ≠ 0) : lookP d nm e = (ansE d e, f0) := by unfold lookP; rw [if_neg (fun x => x h), if_neg (by rw [k]; decide), if_pos a]
theorem look_ok {d : Dz} {nm : ByteArray} {e : UInt64} (h : ckP d) (k : okn nm = true) (a : ansE d e = 0) : lookP d nm e = (0, fdP (d.1.getD (e.toNat - 1) []) nm e) := by unfold lookP; rw [if_neg (fun x => x h), if_neg (by rw [k]; decide), if_neg (fun x => x a)]
set_option maxRecDepth 100000 in
set_option maxHeartbeats 1000000 in
theorem rlook_c (d : DirZ) (nm : ByteArray) (ep : UInt64) (w : World) (hD : Has w (dfx d)) (hok : dOk d) (hnm : nm.size < 4611686018427387904) : Calls Try.prog 31 [.agg (dcell d).toArray, .string nm, v64 ep].toArray w fun e w' => ∃ g : FndZ × List Fact, e = .returned (.tuple #[.agg (fzc g.1).toArray, .int .i64 (lookP (dpl d) nm ep).1]) ∧ St noB w w' [frzN g.2] ∧ (fpl g.1 = (lookP (dpl d) nm ep).2 ∧ Sbs [zfx g.1] g.2 (dfx d) ∧ fOk g.1) := by
  refine GC.calls Try.func31 rfl rfl (St.begin _) ?_
  have hln : (dpl d).1.length = d.1.2.length := by show (d.1.2.map epl).length = _; rw [List.length_map]
  refine GC.seq ?_
  refine GC.reg ?_
  refine GL.step (ot_box rfl rfl rfl fun b3 => ?_)
  refine GL.step (ot_alloc (zs := [.int .u64 0, .bool false, .string ByteArray.empty, .slice none 0 0, .int .u64 0]) zb_55 rfl rfl fun b6 => ?_)
  refine GL.val (rv_assign rfl) rfl ?_
  refine GL.nil ?_
  refine GX.then ?_
  refine GC.seq ?_
  refine GC.seq ?_
  refine GC.reg ?_
  refine GL.val (rv_loadA ag_26 rfl (Hd.cells (k := 1) rfl (us := dcell d) rfl) (by exact sz_26)) rfl ?_
  refine GL.step (ot_call hb_13 rfl (callOk fun w hh => rck_c d w (hD.lift hh) hok) rfl fun _ _ => ?_)
  refine GL.val (rv_assign rfl) rfl ?_
  refine GL.nil ?_
  refine GX.then ?_
  refine GC.seq ?_
  refine GC.reg ?_
  refine GL.val (rv_move rfl) rfl ?_
  refine GL.val (rv_neI rfl rfl) rfl ?_
  refine GL.nil ?_
  refine GX.then ?_
  refine GC.condP rfl (fun c13 => ?_) (fun c13 => ?_)
  · obtain ⟨hnc, hc1⟩ := ck_one c13
    rw [hc1]
    refine GC.seq ?_
    refine GC.reg ?_
    refine GL.val (rv_to (v' := .agg (fzc fz0).toArray) (rv_buildS pl_55 zb_55 rfl rfl rfl) rfl) rfl ?_
    refine GL.val (rv_move rfl) rfl ?_
    refine GL.step (ot_store (k := 0) rfl rfl rfl rfl sz_55 rfl rfl (show repl _ 0 (fzc fz0) = fzc fz0 from rfl) ?_)
    refine GL.val (rv_assign rfl) rfl ?_
    refine GL.nil ?_
    refine GX.then ?_
    refine GC.ret ?_
    refine GX.then_ret ?_
    refine GX.ret2 rfl (RR.cell ag_55 rfl (by exact Hd.cellsAll (k := 0) rfl) (by exact sz_55)) (RR.tmp rfl) ?_
    exact fun w9 h => ⟨(fz0, []), (by rw [look_ck hnc] <;> rfl), by
        have h := h.sel [] rfl rfl
        have h := (h.take 0).frzN0
        exact h, ⟨by rw [look_ck hnc] <;> rfl, Sbs.cons (.inl rfl) (Sbs.nil _ _), fz0_ok⟩⟩
  · have hck : ckP (dpl d) := ck_iff.1 (Decidable.byContradiction c13)
    refine GC.skip ?_
    refine GX.then ?_
    refine GC.seq ?_
    refine GC.seq ?_
    refine GC.reg ?_
    refine GL.val (rv_move rfl) rfl ?_
    refine GL.step (ot_call hb_21 rfl (callOk fun w hh => rname_c nm w hnm) rfl fun _ _ => ?_)
    refine GL.val (rv_not rfl) rfl ?_
    refine GL.nil ?_
    refine GX.then ?_
    refine GC.cond rfl (fun c18 => ?_) (fun c18 => ?_)
    · have hn0 : okn nm = false := by simpa using c18
      refine GC.seq ?_
      refine GC.reg ?_
      refine GL.val (rv_to (v' := .agg (fzc fz0).toArray) (rv_buildS pl_55 zb_55 rfl rfl rfl) rfl) rfl ?_
      refine GL.step (ot_store (k := 0) rfl rfl rfl rfl sz_55 rfl rfl (show repl _ 0 (fzc fz0) = fzc fz0 from rfl) ?_)
      refine GL.val (rv_assign rfl) rfl ?_
      refine GL.nil ?_
      refine GX.then ?_
      refine GC.ret ?_
      refine GX.then_ret ?_
      refine GX.ret2 rfl (RR.cell ag_55 rfl (by exact Hd.cellsAll (k := 0) rfl) (by exact sz_55)) (RR.tmp rfl) ?_
      exact fun w9 h => ⟨(fz0, []), (by rw [look_nm hck hn0] <;> rfl), by
          have h := h.sel [] rfl rfl
          have h := (h.take 0).frzN0
          exact h, ⟨by rw [look_nm hck hn0] <;> rfl, Sbs.cons (.inl rfl) (Sbs.nil _ _), fz0_ok⟩⟩
    · have hn0 : okn nm = true := by simpa using c18
      refine GC.skip ?_
      refine GX.then ?_
      refine GC.seq ?_
      refine GC.seq ?_
      refine GC.reg ?_
      refine GL.val (rv_loadA ag_26 rfl (Hd.cells (k := 1) rfl (us := dcell d) rfl) (by exact sz_26)) rfl ?_
      refine GL.val (rv_move rfl) rfl ?_
      refine GL.step (ot_call hb_46 rfl (callOk fun w hh => rans_c d ep w hok) rfl fun _ _ => ?_)
      refine GL.val (rv_assign rfl) rfl ?_
      refine GL.nil ?_
      refine GX.then ?_
      refine GC.seq ?_
      refine GC.reg ?_
      refine GL.val (rv_move rfl) rfl ?_
      refine GL.val (rv_neI rfl rfl) rfl ?_
      refine GL.nil ?_
      refine GX.then ?_
      refine GC.condP rfl (fun c24 => ?_) (fun c24 => ?_)
      · have hae := c24
        refine GC.seq ?_
        refine GC.reg ?_
        refine GL.val (rv_to (v' := .agg (fzc fz0).toArray) (rv_buildS pl_55 zb_55 rfl rfl rfl) rfl) rfl ?_
        refine GL.val (rv_move rfl) rfl ?_
        refine GL.step (ot_store (k := 0) rfl rfl rfl rfl sz_55 rfl rfl (show repl _ 0 (fzc fz0) = fzc fz0 from rfl) ?_)
        refine GL.val (rv_assign rfl) rfl ?_
        refine GL.nil ?_
        refine GX.then ?_
        refine GC.ret ?_
        refine GX.then_ret ?_
        refine GX.ret2 rfl (RR.cell ag_55 rfl (by exact Hd.cellsAll (k := 0) rfl) (by exact sz_55)) (RR.tmp rfl) ?_
        exact fun w9 h => ⟨(fz0, []), (by rw [look_an hck hn0 hae] <;> rfl), by
            have h := h.sel [] rfl rfl
            have h := (h.take 0).frzN0
            exact h, ⟨by rw [look_an hck hn0 hae] <;> rfl, Sbs.cons (.inl rfl) (Sbs.nil _ _), fz0_ok⟩⟩
      · have hae : ansE (dpl d) ep = 0 := Decidable.byContradiction c24
        have hf0 := ans_0 hae
        rw [hln] at hf0
        refine GC.skip ?_
        refine GX.then ?_
        refine GC.seq ?_
        refine GC.reg ?_
        refine GL.val (rv_loadA ag_26 rfl (Hd.cells (k := 1) rfl (us := dcell d) rfl) (by exact sz_26)) rfl ?_
        refine GL.val (rv_move rfl) rfl ?_
        refine GL.val (rv_move rfl) rfl ?_
        refine GL.step (ot_call hb_47 rfl (callOk fun w hh => found_c d nm ep w (hD.lift hh) hok hf0.1 hf0.2.1) rfl fun _ _ => ?_)
        refine GL.step (ot_store (k := 0) rfl rfl rfl rfl sz_55 rfl rfl (show repl _ 0 (fzc (fdF d nm ep)) = fzc (fdF d nm ep) from rfl) ?_)
        refine GL.val (rv_assign rfl) rfl ?_
        refine GL.nil ?_
        refine GX.then ?_
        refine GC.ret ?_
        refine GX.ret2 rfl (RR.cell ag_55 rfl (by exact Hd.cellsAll (k := 0) rfl) (by exact sz_55)) (RR.tmp rfl) ?_
        exact fun w9 h => ⟨(fdF d nm ep, []), (by rw [look_ok hck hn0 hae]), by
            have h := h.sel [] rfl rfl
            have h := (h.take 0).frzN0
            exact h, ⟨by rw [look_ok hck hn0 hae]; exact fdF_pl d nm ep, fdF_fx (by omega) _, fdF_ok (by omega) hok⟩⟩
set_option maxRecDepth 100000 in
set_option maxHeartbeats 1000000 in
theorem rhist_c (d : DirZ) (nm : ByteArray) (fr to : UInt64) (w : World) (hD : Has w (dfx d)) (hok : dOk d) (hnm : nm.size < 4611686018427387904) : Calls Try.prog 33 [.agg (dcell d).toArray, .string nm, v64 fr, v64 to].toArray w fun e w' => ∃ g : FsZ × List Fact, e = .returned (.tuple #[.slice g.1.1.1 g.1.2.length g.1.1.2, .int .i64 (histP (dpl d) nm fr to).1]) ∧ St noB w w' [frzN g.2] ∧ (g.1.2.map fpl = (histP (dpl d) nm fr to).2 ∧ Sbs (ffx g.1) g.2 (dfx d) ∧ (∀ z ∈ g.1.2, fOk z)) := by
  refine GC.calls Try.func33 rfl rfl (St.begin _) ?_
  obtain ⟨hok1, hok2, hok3, hok4⟩ := id hok
  have hln : (dpl d).1.length = d.1.2.length := by show (d.1.2.map epl).length = _; rw [List.length_map]
  refine GC.seq ?_
  refine GC.reg ?_
  refine GL.step (ot_box rfl rfl rfl fun b4 => ?_)
  refine GL.val (rv_assign rfl) rfl ?_
  refine GL.val (rv_assign rfl) rfl ?_
  refine GL.nil ?_
  refine GX.then ?_
  refine GC.seq ?_
  refine GC.seq ?_
  refine GC.reg ?_
  refine GL.val (rv_loadA ag_26 rfl (Hd.cells (k := 0) rfl (us := dcell d) rfl) (by exact sz_26)) rfl ?_
  refine GL.step (ot_call hb_13 rfl (callOk fun w hh => rck_c d w (hD.lift hh) hok) rfl fun _ _ => ?_)
  refine GL.val (rv_assign rfl) rfl ?_
  refine GL.nil ?_
  refine GX.then ?_
  refine GC.seq ?_
  refine GC.reg ?_
  refine GL.val (rv_move rfl) rfl ?_
  refine GL.val (rv_neI rfl rfl) rfl ?_
  refine GL.nil ?_
  refine GX.then ?_
  refine GC.condP rfl (fun c18 => ?_) (fun c18 => ?_)
  · obtain ⟨hnc, hc1⟩ := ck_one c18
    rw [hc1]
    refine GC.seq ?_
    refine GC.reg ?_
    refine GL.val (rv_move rfl) rfl ?_
    refine GL.val (rv_assign rfl) rfl ?_
    refine GL.val (rv_assign rfl) rfl ?_
    refine GL.nil ?_
    refine GX.then ?_
    refine GC.ret ?_
    refine GX.then_ret ?_
    refine GX.ret2 rfl (RR.tmp rfl) (RR.tmp rfl) ?_
    exact fun w9 h => ⟨(((none, 0), []), []), (by rw [hist_ck hnc] <;> rfl), by
        have h := h.sel [] rfl rfl
        have h := (h.take 0).frzN0
        exact h, ⟨by rw [hist_ck hnc] <;> rfl, Sbs.cons (.inl rfl) (Sbs.nil _ _), fun z h => (by cases h)⟩⟩
  · have hck : ckP (dpl d) := ck_iff.1 (Decidable.byContradiction c18)
    refine GC.skip ?_
    refine GX.then ?_
    refine GC.seq ?_
    refine GC.seq ?_
    refine GC.reg ?_
    refine GL.val (rv_move rfl) rfl ?_
    refine GL.step (ot_call hb_21 rfl (callOk fun w hh => rname_c nm w hnm) rfl fun _ _ => ?_)
    refine GL.val (rv_not rfl) rfl ?_
    refine GL.nil ?_
    refine GX.then ?_
    refine GC.cond rfl (fun c22 => ?_) (fun c22 => ?_)
    · have hn0 : okn nm = false := by simpa using c22
      refine GC.seq ?_
      refine GC.reg ?_
      refine GL.val (rv_assign rfl) rfl ?_
      refine GL.val (rv_assign rfl) rfl ?_
      refine GL.nil ?_
      refine GX.then ?_
      refine GC.ret ?_
      refine GX.then_ret ?_
      refine GX.ret2 rfl (RR.tmp rfl) (RR.tmp rfl) ?_
      exact fun w9 h => ⟨(((none, 0), []), []), (by rw [hist_nm hck hn0] <;> rfl), by
          have h := h.sel [] rfl rfl
          have h := (h.take 0).frzN0
          exact h, ⟨by rw [hist_nm hck hn0] <;> rfl, Sbs.cons (.inl rfl) (Sbs.nil _ _), fun z h => (by cases h)⟩⟩
    · have hn0 : okn nm = true := by simpa using c22
      refine GC.skip ?_
      refine GX.then ?_
      refine GC.seq ?_
      refine GC.seq ?_
      refine GC.reg ?_
      refine GL.val (rv_loadA ag_26 rfl (Hd.cells (k := 0) rfl (us := dcell d) rfl) (by exact sz_26)) rfl ?_
      refine GL.val (rv_move rfl) rfl ?_
      refine GL.step (ot_call hb_46 rfl (callOk fun w hh => rans_c d fr w hok) rfl fun _ _ => ?_)
      refine GL.val (rv_assign rfl) rfl ?_
      refine GL.nil ?_
      refine GX.then ?_
      refine GC.seq ?_
      refine GC.reg ?_
      refine GL.val (rv_move rfl) rfl ?_
      refine GL.val (rv_neI rfl rfl) rfl ?_
      refine GL.nil ?_
      refine GX.then ?_
      refine GC.condP rfl (fun c27 => ?_) (fun c27 => ?_)
      · have hae := c27
        refine GC.seq ?_
        refine GC.reg ?_
        refine GL.val (rv_move rfl) rfl ?_
        refine GL.val (rv_assign rfl) rfl ?_
        refine GL.val (rv_assign rfl) rfl ?_
        refine GL.nil ?_
        refine GX.then ?_
        refine GC.ret ?_
        refine GX.then_ret ?_
        refine GX.ret2 rfl (RR.tmp rfl) (RR.tmp rfl) ?_
        exact fun w9 h => ⟨(((none, 0), []), []), (by rw [hist_fr hck hn0 hae] <;> rfl), by
            have h := h.sel [] rfl rfl
            have h := (h.take 0).frzN0
            exact h, ⟨by rw [hist_fr hck hn0 hae] <;> rfl, Sbs.cons (.inl rfl) (Sbs.nil _ _), fun z h => (by cases h)⟩⟩
      · have hae : ansE (dpl d) fr = 0 := Decidable.byContradiction c27
        have hf0 := ans_0 hae
        rw [hln] at hf0
        refine GC.skip ?_
        refine GX.then ?_
        refine GC.seq ?_
        refine GC.seq ?_
        refine GC.reg ?_
        refine GL.val (rv_loadA ag_26 rfl (Hd.cells (k := 0) rfl (us := dcell d) rfl) (by exact sz_26)) rfl ?_
        refine GL.val (rv_move rfl) rfl ?_
        refine GL.step (ot_call hb_46 rfl (callOk fun w hh => rans_c d to w hok) rfl fun _ _ => ?_)
        refine GL.val (rv_assign rfl) rfl ?_
        refine GL.nil ?_
        refine GX.then ?_
        refine GC.seq ?_
        refine GC.reg ?_
        refine GL.val (rv_move rfl) rfl ?_
        refine GL.val (rv_neI rfl rfl) rfl ?_
        refine GL.nil ?_
        refine GX.then ?_
        refine GC.condP rfl (fun c33 => ?_) (fun c33 => ?_)
        · have hbe := c33
          refine GC.seq ?_
          refine GC.reg ?_
          refine GL.val (rv_move rfl) rfl ?_
          refine GL.val (rv_assign rfl) rfl ?_
          refine GL.val (rv_assign rfl) rfl ?_
          refine GL.nil ?_
          refine GX.then ?_
          refine GC.ret ?_
          refine GX.then_ret ?_
          refine GX.ret2 rfl (RR.tmp rfl) (RR.tmp rfl) ?_
          exact fun w9 h => ⟨(((none, 0), []), []), (by rw [hist_to hck hn0 hae hbe] <;> rfl), by
              have h := h.sel [] rfl rfl
              have h := (h.take 0).frzN0
              exact h, ⟨by rw [hist_to hck hn0 hae hbe] <;> rfl, Sbs.cons (.inl rfl) (Sbs.nil _ _), fun z h => (by cases h)⟩⟩
        · have hbe : ansE (dpl d) to = 0 := Decidable.byContradiction c33
          have hf1 := ans_0 hbe
          rw [hln] at hf1
          refine GC.skip ?_
          refine GX.then ?_
          refine GC.seq ?_
          refine GC.seq ?_
          refine GC.reg ?_
          refine GL.val (rv_move rfl) rfl ?_
          refine GL.val (rv_move rfl) rfl ?_
          refine GL.val (rv_gtr rfl rfl) rfl ?_
          refine GL.nil ?_
          refine GX.then ?_
          refine GC.condP rfl (fun c37 => ?_) (fun c37 => ?_)
          · have hgt : to.toNat < fr.toNat := by omega
            refine GC.seq ?_
            refine GC.reg ?_
            refine GL.val (rv_assign rfl) rfl ?_
            refine GL.val (rv_assign rfl) rfl ?_
            refine GL.nil ?_
            refine GX.then ?_
            refine GC.ret ?_
            refine GX.then_ret ?_
            refine GX.ret2 rfl (RR.tmp rfl) (RR.tmp rfl) ?_
            exact fun w9 h => ⟨(((none, 0), []), []), (by rw [hist_gt hck hn0 hae hbe hgt] <;> rfl), by
                have h := h.sel [] rfl rfl
                have h := (h.take 0).frzN0
                exact h, ⟨by rw [hist_gt hck hn0 hae hbe hgt] <;> rfl, Sbs.cons (.inl rfl) (Sbs.nil _ _), fun z h => (by cases h)⟩⟩
          · have hgt : ¬ to.toNat < fr.toNat := by omega
            refine GC.skip ?_
            refine GX.then ?_
            refine GC.seq ?_
            refine GC.reg ?_
            refine GL.val (rv_assign rfl) rfl ?_
            refine GL.nil ?_
            refine GX.then ?_
            refine GC.seq ?_
            refine GC.seq ?_
            refine GC.reg ?_
            refine GL.val (rv_move rfl) rfl ?_
            refine GL.val (rv_assign rfl) rfl ?_
            refine GL.nil ?_
            refine GX.then ?_
            refine GC.block ?_
            refine GC.loopK (γ := UInt64 × Nat × List FndZ × (Option Addr × Nat)) [4, 3, 1] [0] (fun g Lk => (13, .slice g.2.2.2.1 g.2.1 g.2.2.2.2) :: (14, v64 g.1) :: Lk) (fun g Fk => .row g.2.2.2.1 g.2.2.2.2 55 5 g.2.1 (fcat fzc g.2.2.1) :: Fk) (fun g => (g.1.toNat = fr.toNat + g.2.1) ∧ (g.1.toNat ≤ to.toNat + 1) ∧ (g.2.2.1.map fpl = histL (dpl d) nm fr g.2.1) ∧ (Sbs (g.2.2.1.map zfx) [] (dfx d)) ∧ (∀ z ∈ g.2.2.1, fOk z)) (fun g => to.toNat + 1 - g.1.toNat) (fr, 0, [], (none, 0)) rfl rfl ⟨rfl, by dsimp only; omega, rfl, Sbs.nil _ _, (fun b h => by cases h)⟩ (by repeat (first | exact Sub.nil | refine Sub.cons rfl ?_)) (fun w9 h => by
                have h := h.nilRow 55 5
                exact h) (fun ⟨n, i, fs1, rF⟩ ⟨hn, hle, hf, hs, ho⟩ => ?_)
            dsimp only at hn hle hf hs ho ⊢
            refine GC.seq ?_
            refine GC.seq ?_
            refine GC.reg ?_
            refine GL.val (rv_move rfl) rfl ?_
            refine GL.val (rv_move rfl) rfl ?_
            refine GL.val (rv_leq rfl rfl) rfl ?_
            refine GL.nil ?_
            refine GX.then ?_
            refine GC.condP rfl (fun c41 => ?_) (fun c41 => ?_)
            · have hle2 : n.toNat ≤ to.toNat := by omega
              refine GC.skip ?_
              refine GX.then ?_
              refine GC.seq ?_
              refine GC.block ?_
              refine GC.reg ?_
              refine GL.val (rv_move rfl) rfl ?_
              refine GL.val (rv_loadA ag_26 rfl (Hd.cells (k := 1) rfl (us := dcell d) rfl) (by exact sz_26)) rfl ?_
              refine GL.val (rv_move rfl) rfl ?_
              refine GL.val (rv_move rfl) rfl ?_
              refine GL.step (ot_call hb_47 rfl (callOk fun w hh => found_c d nm n w (hD.lift hh) hok (by omega) (by omega)) rfl fun _ _ => ?_)
              refine GL.step (ot_buildSlice ei_70 rfl rfl rfl rfl rfl rfl fun b49 => ?_)
              refine GL.step (ot_append (k := 1) (news := fzc (fdF d nm n)) ei_70 rfl rfl rfl rfl (fun w h => .inr ⟨b49, 0, rfl, Hd.cellsAll (k := 0) rfl w h⟩) rfl (by omega) (by decide) rfl fun A50 c50 z50 => ?_)
              refine GL.val (rv_assign rfl) rfl ?_
              refine GL.nil ?_
              refine GX.blk ?_
              refine GX.then ?_
              refine GC.reg ?_
              refine GL.val (rv_move rfl) rfl ?_
              refine GL.val (rv_add64 (b := 1) rfl rfl) rfl ?_
              refine GL.val (rv_assign rfl) rfl ?_
              refine GL.nil ?_
              exact GX.round (n + 1, i + 1, fs1 ++ [fdF d nm n], (A50, c50)) (by dsimp only; rw [add1 (by omega)]; omega) ⟨by dsimp only; rw [add1 (by omega)]; omega, by dsimp only; rw [add1 (by omega)]; omega, by rw [List.map_append, hf, histL_s hn (by omega) (by rw [hln]; omega), List.map_singleton, fdF_pl, List.getD_eq_getElem?_getD, List.getElem?_eq_getElem (by rw [hln]; omega)]; rfl, by rw [List.map_append]; exact hs.app (fdF_fx (by omega) _), (fun b hb => (List.mem_append.1 hb).elim (ho b) (fun hb => by obtain rfl := List.mem_singleton.1 hb; exact fdF_ok (by omega) hok))⟩ (by repeat (first | exact Sub.nil | refine Sub.cons rfl ?_)) (fun w9 h => by
                  have h := h.sel [2, 1] rfl rfl
                  rw [fcat_app, fcat_one]
                  exact h)
            · obtain rfl : i = to.toNat + 1 - fr.toNat := by omega
              have hfl : fs1.length = to.toNat + 1 - fr.toNat := by have := congrArg List.length hf; unfold histL at this; rwa [List.length_map, List.length_map, List.length_range] at this
              refine GC.exit ?_
              refine GX.then_exit ?_
              refine GX.then_exit ?_
              refine GX.blk_eq ?_
              refine GX.then ?_
              refine GC.seq ?_
              refine GC.reg ?_
              refine GL.val (rv_move rfl) rfl ?_
              refine GL.val (rv_assign rfl) rfl ?_
              refine GL.val (rv_assign rfl) rfl ?_
              refine GL.nil ?_
              refine GX.then ?_
              refine GC.ret ?_
              refine GX.ret2 rfl (RR.tmp rfl) (RR.tmp rfl) ?_
              exact fun w9 h => ⟨((rF, fs1), [(rF.1, fcat fzc fs1)]), (by rw [hist_ok hck hn0 hae hbe hgt, hfl]), by
                  have h := h.sel [0] rfl rfl
                  have h := h.rowFrz (k := 0) rfl
                  exact h, ⟨by rw [hist_ok hck hn0 hae hbe hgt, hf], Sbs.cons (.inr (.inl (List.mem_cons_self ..))) (hs.l (F' := [(rF.1, fcat fzc fs1)])), ho⟩⟩
end Go.Proofs.Ytkifeeiafachpaa
