import Derived.Test.YtkifeeiafachpaaJj
set_option linter.unusedVariables false
set_option linter.unusedSimpArgs false
namespace Go.Proofs.Ytkifeeiafachpaa
open Go Go.RowKit Go.Bz
theorem ag_4 : aggB Try.prog 4 = some false := by kernel_rfl
theorem ag_55 : aggB Try.prog 55 = some true := by kernel_rfl
theorem ei_70 : elemInfo Try.prog 70 = some (55, 5, 64) := by kernel_rfl
theorem ei_84 : elemInfo Try.prog 84 = some (24, 1, 8) := by kernel_rfl
theorem es_84 : elemSz Try.prog 84 = some 1 := by kernel_rfl
theorem fo_55_1 : fieldOff Try.prog 55 1 = some 1 := by kernel_rfl
theorem fo_55_2 : fieldOff Try.prog 55 2 = some 2 := by kernel_rfl
theorem hb_48 : hasBody Try.prog 48 = true := by kernel_rfl
theorem pl_55 : placesB Try.prog 55 = some [(0, 1), (1, 1), (2, 3)] := by kernel_rfl
theorem sz_4 : (Try.prog.info? 4).map (·.size) = some 1 := by kernel_rfl
theorem sz_55 : (Try.prog.info? 55).map (·.size) = some 5 := by kernel_rfl
theorem zb_55 : zeroB Try.prog 55 = some (.agg #[.int .u64 0, .bool false, .string ByteArray.empty, .slice none 0 0, .int .u64 0]) := by kernel_rfl
theorem one_of_map {l : List BindZ} {x : BindZ} (h : l.map bpl = [bpl x]) : ∃ z, l = [z] ∧ bpl z = bpl x := by
  cases l with
  | nil => cases h
  | cons z l =>
    cases l with
    | nil => exact ⟨z, rfl, by simpa using h⟩
    | cons y l => simp at h
theorem at_pl {e : EpZ} {nm : ByteArray} {n : UInt64} {z : BindZ} (hs : Srt (nms e.2)) (h : bpl z = bpl (atN e.2 nm)) : fpl (n, hasN (nms e.2) nm, z) = fdP (epl e) nm n := by
  obtain ⟨h1, h2, _⟩ := atN_pl (s := nm) hs
  unfold fpl fdP
  dsimp only
  rw [h, h2, h1]; rfl
set_option maxRecDepth 100000 in
set_option maxHeartbeats 1000000 in
theorem hist_c (d : DirZ) (nm : ByteArray) (fr to : UInt64) (w : World) (hD : Has w (dfx d)) (hok : dOk d) (hnm : nm.size < 4611686018427387904) : Calls Try.prog 32 [.agg (dcell d).toArray, .string nm, v64 fr, v64 to].toArray w fun e w' => ∃ g : FsZ × List Fact, e = .returned (.tuple #[.slice g.1.1.1 g.1.2.length g.1.1.2, .int .i64 (histP (dpl d) nm fr to).1]) ∧ St noB w w' [frzN g.2] ∧ (g.1.2.map fpl = (histP (dpl d) nm fr to).2 ∧ Sbs (ffx g.1) g.2 (dfx d) ∧ (∀ z ∈ g.1.2, fOk z)) := by
  refine GC.calls Try.func32 rfl rfl (St.begin _) ?_
  obtain ⟨hok1, hok2, hok3, hok4⟩ := id hok
  have hln : (dpl d).1.length = d.1.2.length := by show (d.1.2.map epl).length = _; rw [List.length_map]
  refine GC.seq ?_
  refine GC.reg ?_
  refine GL.step (ot_box rfl rfl rfl fun b4 => ?_)
  refine GL.val (rv_assign rfl) rfl ?_
  refine GL.val (rv_assign rfl) rfl ?_
  refine GL.nil ?_
  refine GX.then ?_
  refine GC.seq ?_
  refine GC.seq ?_
  refine GC.reg ?_
  refine GL.val (rv_loadA ag_26 rfl (Hd.cells (k := 0) rfl (us := dcell d) rfl) (by exact sz_26)) rfl ?_
  refine GL.step (ot_call hb_12 rfl (callOk fun w hh => ck_c d w (hD.lift hh) hok) rfl fun _ _ => ?_)
  refine GL.val (rv_assign rfl) rfl ?_
  refine GL.nil ?_
  refine GX.then ?_
  refine GC.seq ?_
  refine GC.reg ?_
  refine GL.val (rv_move rfl) rfl ?_
  refine GL.val (rv_neI rfl rfl) rfl ?_
  refine GL.nil ?_
  refine GX.then ?_
  refine GC.condP rfl (fun c23 => ?_) (fun c23 => ?_)
  · obtain ⟨hnc, hc1⟩ := ck_one c23
    rw [hc1]
    refine GC.seq ?_
    refine GC.reg ?_
    refine GL.val (rv_move rfl) rfl ?_
    refine GL.val (rv_assign rfl) rfl ?_
    refine GL.val (rv_assign rfl) rfl ?_
    refine GL.nil ?_
    refine GX.then ?_
    refine GC.ret ?_
    refine GX.then_ret ?_
    refine GX.ret2 rfl (RR.tmp rfl) (RR.tmp rfl) ?_
    exact fun w9 h => ⟨(((none, 0), []), []), (by rw [hist_ck hnc] <;> rfl), by
        have h := h.sel [] rfl rfl
        have h := (h.take 0).frzN0
        exact h, ⟨by rw [hist_ck hnc] <;> rfl, Sbs.cons (.inl rfl) (Sbs.nil _ _), fun z h => (by cases h)⟩⟩
  · have hck : ckP (dpl d) := ck_iff.1 (Decidable.byContradiction c23)
    refine GC.skip ?_
    refine GX.then ?_
    refine GC.seq ?_
    refine GC.seq ?_
    refine GC.reg ?_
    refine GL.val (rv_move rfl) rfl ?_
    refine GL.step (ot_buildSlice ei_27 rfl rfl rfl rfl rfl rfl fun b26 => ?_)
    refine GL.val (rv_to (v' := .agg (bzc (nm, [0], (some ⟨b26, 0, none⟩, 1), 0)).toArray) (rv_buildS pl_49 zb_49 rfl rfl rfl) rfl) rfl ?_
    refine GL.step (ot_call hb_42 rfl (callOk fun w hh => checkZ_c (nm, [0], (some ⟨b26, 0, none⟩, 1), 0) w hnm) rfl fun _ _ => ?_)
    refine GL.val (rv_neI rfl rfl) rfl ?_
    refine GL.nil ?_
    refine GX.then ?_
    refine GC.condP rfl (fun c29 => ?_) (fun c29 => ?_)
    · have hn0 : okn nm = false := by
        cases hk : okn nm with
        | false => rfl
        | true => exact absurd (chk_0 (key := [0]) hk (by decide)) c29
      refine GC.seq ?_
      refine GC.reg ?_
      refine GL.val (rv_assign rfl) rfl ?_
      refine GL.val (rv_assign rfl) rfl ?_
      refine GL.nil ?_
      refine GX.then ?_
      refine GC.ret ?_
      refine GX.then_ret ?_
      refine GX.ret2 rfl (RR.tmp rfl) (RR.tmp rfl) ?_
      exact fun w9 h => ⟨(((none, 0), []), []), (by rw [hist_nm hck hn0] <;> rfl), by
          have h := h.sel [] rfl rfl
          have h := (h.take 0).frzN0
          exact h, ⟨by rw [hist_nm hck hn0] <;> rfl, Sbs.cons (.inl rfl) (Sbs.nil _ _), fun z h => (by cases h)⟩⟩
    · have hn0 : okn nm = true := by
        cases hk : okn nm with
        | true => rfl
        | false => exact absurd (show chk nm [0] = 0 from Decidable.byContradiction c29) (by rw [chk_name hk]; decide)
      refine GC.skip ?_
      refine GX.then ?_
      refine GC.seq ?_
      refine GC.seq ?_
      refine GC.reg ?_
      refine GL.val (rv_move rfl) rfl ?_
      refine GL.val (rv_move rfl) rfl ?_
      refine GL.step (ot_buildSlice ei_84 rfl rfl rfl rfl rfl rfl fun b32 => ?_)
      refine GL.val (rv_lenSl Try.underlying84 rfl) rfl ?_
      refine GL.val (rv_move rfl) rfl ?_
      refine GL.nil ?_
      refine GX.then ?_
      refine GC.block ?_
      refine GC.loopK (γ := Nat) [33, 32, 4, 3, 2, 1] [2, 1, 0] (fun g Lk => (34, .int .i64 (g : Int)) :: Lk) (fun g Fk => Fk) (fun g => (g ≤ 2) ∧ (0 < g → ansE (dpl d) fr = 0) ∧ (1 < g → ansE (dpl d) to = 0)) (fun g => 2 - g) (0) rfl rfl ⟨by decide, fun h => absurd h (by decide), fun h => absurd h (by decide)⟩ (by repeat (first | exact Sub.nil | refine Sub.cons rfl ?_)) (fun w9 h => by
          exact h) (fun k ⟨hk2, ha0, ha1⟩ => ?_)
      skip
      refine GC.seq ?_
      refine GC.reg ?_
      refine GL.val (rv_lss rfl rfl) rfl ?_
      refine GL.nil ?_
      refine GX.then ?_
      refine GC.seq ?_
      refine GC.condP rfl (fun c35 => ?_) (fun c35 => ?_)
      · have hk2' : k < 2 := by omega
        refine GC.skip ?_
        refine GX.then ?_
        refine GC.seq ?_
        refine GC.block ?_
        refine GC.seq ?_
        refine GC.cutq (γ := Unit) [34, 33, 32, 4, 3, 2, 1] [2, 1, 0] (fun g Lk => (12, v64 (if k = 0 then fr else to)) :: Lk) (fun g Fk => Fk) (fun g => True) rfl rfl ?_ (fun _ _ => ?_)
        · rcases (by omega : k = 0 ∨ k = 1) with hk | hk
          · rw [show (if k = 0 then fr else to) = fr from if_pos hk]
            refine GC.reg ?_
            refine GL.val (rv_elemJ (q := 0 + k * 1) k es_84 rfl rfl rfl (by omega) rfl) rfl ?_
            refine GL.val (rv_load ag_24 rfl (Hd.cell (k := 0) rfl (by subst hk; rfl))) rfl ?_
            refine GL.val (rv_assign rfl) rfl ?_
            refine GL.nil ?_
            exact GX.cutq () trivial (by repeat (first | exact Sub.nil | refine Sub.cons rfl ?_)) (fun w9 h => by
                exact h)
          · rw [show (if k = 0 then fr else to) = to from if_neg (by omega)]
            refine GC.reg ?_
            refine GL.val (rv_elemJ (q := 0 + k * 1) k es_84 rfl rfl rfl (by omega) rfl) rfl ?_
            refine GL.val (rv_load ag_24 rfl (Hd.cell (k := 0) rfl (by subst hk; rfl))) rfl ?_
            refine GL.val (rv_assign rfl) rfl ?_
            refine GL.nil ?_
            exact GX.cutq () trivial (by repeat (first | exact Sub.nil | refine Sub.cons rfl ?_)) (fun w9 h => by
                exact h)
        refine GX.then ?_
        refine GC.seq ?_
        refine GC.reg ?_
        refine GL.val (rv_loadA ag_26 rfl (Hd.cells (k := 2) rfl (us := dcell d) rfl) (by exact sz_26)) rfl ?_
        refine GL.val (rv_move rfl) rfl ?_
        refine GL.step (ot_call hb_48 rfl (callOk fun w hh => ans_c d (if k = 0 then fr else to) w hok) rfl fun _ _ => ?_)
        refine GL.val (rv_assign rfl) rfl ?_
        refine GL.nil ?_
        refine GX.then ?_
        refine GC.seq ?_
        refine GC.reg ?_
        refine GL.val (rv_move rfl) rfl ?_
        refine GL.val (rv_neI rfl rfl) rfl ?_
        refine GL.nil ?_
        refine GX.then ?_
        refine GC.condP rfl (fun c42 => ?_) (fun c42 => ?_)
        · have hne : histP (dpl d) nm fr to = (ansE (dpl d) (if k = 0 then fr else to), []) := by
            rcases Nat.eq_zero_or_pos k with h | h
            · rw [if_pos h] at c42 ⊢; exact hist_fr hck hn0 c42
            · rw [if_neg (by omega)] at c42 ⊢; exact hist_to hck hn0 (ha0 h) c42
          refine GC.seq ?_
          refine GC.reg ?_
          refine GL.val (rv_move rfl) rfl ?_
          refine GL.val (rv_assign rfl) rfl ?_
          refine GL.val (rv_assign rfl) rfl ?_
          refine GL.nil ?_
          refine GX.then ?_
          refine GC.ret ?_
          refine GX.blk_ret ?_
          refine GX.then_ret ?_
          refine GX.then_ret ?_
          refine GX.blk_ret ?_
          refine GX.then_ret ?_
          refine GX.ret2 rfl (RR.tmp rfl) (RR.tmp rfl) ?_
          exact fun w9 h => ⟨(((none, 0), []), []), (by rw [hne] <;> rfl), by
              have h := h.sel [] rfl rfl
              have h := (h.take 0).frzN0
              exact h, ⟨by rw [hne] <;> rfl, Sbs.cons (.inl rfl) (Sbs.nil _ _), fun z h => (by cases h)⟩⟩
        · have hans : ansE (dpl d) (if k = 0 then fr else to) = 0 := Decidable.byContradiction c42
          refine GC.skip ?_
          refine GX.blk ?_
          refine GX.then ?_
          refine GC.reg ?_
          refine GL.val (rv_add rfl rfl (by omega) (by omega)) rfl ?_
          refine GL.val (rv_move rfl) rfl ?_
          refine GL.nil ?_
          exact GX.round (k + 1) (by omega) ⟨by omega, fun _ => by (rcases Nat.eq_zero_or_pos k with h | h; rw [if_pos h] at hans; exact hans; exact ha0 h), fun h => by (rw [if_neg (by omega)] at hans; exact hans)⟩ (by repeat (first | exact Sub.nil | refine Sub.cons rfl ?_)) (fun w9 h => by
              exact h)
      · obtain rfl : k = 2 := by omega
        have hA0 := ha0 (by omega)
        have hA1 := ha1 (by omega)
        have hf0 := ans_0 hA0
        have hf1 := ans_0 hA1
        rw [hln] at hf0 hf1
        refine GC.exit ?_
        refine GX.then_exit ?_
        refine GX.then_exit ?_
        refine GX.blk_eq ?_
        refine GX.then ?_
        refine GC.seq ?_
        refine GC.reg ?_
        refine GL.val (rv_assign rfl) rfl ?_
        refine GL.nil ?_
        refine GX.then ?_
        refine GC.seq ?_
        refine GC.seq ?_
        refine GC.reg ?_
        refine GL.val (rv_move rfl) rfl ?_
        refine GL.val (rv_assign rfl) rfl ?_
        refine GL.nil ?_
        refine GX.then ?_
        refine GC.block ?_
        refine GC.loopK (γ := UInt64 × Nat × List FndZ × (Option Addr × Nat) × List Fact) [4, 3, 1] [2, 1, 0] (fun g Lk => (14, .slice g.2.2.2.1.1 g.2.1 g.2.2.2.1.2) :: (15, v64 g.1) :: Lk) (fun g Fk => .row g.2.2.2.1.1 g.2.2.2.1.2 55 5 g.2.1 (fcat fzc g.2.2.1) :: frzN g.2.2.2.2 :: Fk) (fun g => (g.1.toNat = fr.toNat + g.2.1) ∧ (g.2.1 = 0 ∨ g.1.toNat ≤ to.toNat + 1) ∧ (g.2.2.1.map fpl = histL (dpl d) nm fr g.2.1) ∧ (Sbs (g.2.2.1.map zfx) g.2.2.2.2 (dfx d)) ∧ (∀ z ∈ g.2.2.1, fOk z) ∧ (g.2.2.2.1.1 = none → g.2.1 = 0) ∧ (g.2.1 = 0 → g.2.2.2.1.1 = none)) (fun g => to.toNat + 1 - g.1.toNat) (fr, 0, [], (none, 0), []) rfl rfl ⟨rfl, .inl rfl, rfl, Sbs.nil _ _, (fun b h => by cases h), fun _ => rfl, fun _ => rfl⟩ (by repeat (first | exact Sub.nil | refine Sub.cons rfl ?_)) (fun w9 h => by
            have h := h.frzN0
            have h := h.nilRow 55 5
            exact h) (fun ⟨n, i, fs1, rF, F⟩ ⟨hn, hle, hf, hs, ho, hn1, hn2⟩ => ?_)
        dsimp only at hn hle hf hs ho hn1 hn2 ⊢
        refine GC.seq ?_
        refine GC.seq ?_
        refine GC.reg ?_
        refine GL.val (rv_move rfl) rfl ?_
        refine GL.val (rv_move rfl) rfl ?_
        refine GL.val (rv_leq rfl rfl) rfl ?_
        refine GL.nil ?_
        refine GX.then ?_
        refine GC.condP rfl (fun c48 => ?_) (fun c48 => ?_)
        · have hle2 : n.toNat ≤ to.toNat := by omega
          have hlt : n.toNat - 1 < d.1.2.length := by omega
          have hem : d.1.2[n.toNat - 1] ∈ d.1.2 := List.getElem_mem _
          obtain ⟨be, oe, hAe, hCe⟩ := slr_some (hD _ (dfx_e d)) (fcat_ne ec_len (by decide) hlt)
          replace hAe : d.1.1.1 = some ⟨be, oe, none⟩ := hAe
          replace hCe : Cells w be oe (fcat ecell d.1.2) := hCe
          have hoe := hok1 _ hem
          have hre : rightL (epl d.1.2[n.toNat - 1]) := ckP_rt hck _ hem
          have hsrt : Srt (nms d.1.2[n.toNat - 1].2) := sortP_iff.1 hre.2.1
          have hel : d.1.2[n.toNat - 1].2.length ≤ 256 := by have := hre.2.2; rwa [show epl d.1.2[n.toNat - 1] = d.1.2[n.toNat - 1].2.map bpl from rfl, List.length_map] at this
          have hRe : SlR w d.1.2[n.toNat - 1].1.1 (fcat bzc d.1.2[n.toNat - 1].2) := hD _ (dfx_ep hem _ (efx_hd _))
          refine GC.skip ?_
          refine GX.then ?_
          refine GC.seq ?_
          refine GC.block ?_
          refine GC.seq ?_
          refine GC.reg ?_
          refine GL.val (rv_move rfl) rfl ?_
          refine GL.val (rv_to (v' := .agg (fzc (n, false, bz0)).toArray) (rv_buildS pl_55 zb_55 rfl rfl rfl) rfl) rfl ?_
          refine GL.step (ot_alloc (zs := [.int .u64 0, .bool false, .string ByteArray.empty, .slice none 0 0, .int .u64 0]) zb_55 rfl rfl fun b16 => ?_)
          refine GL.step (ot_store (k := 0) rfl rfl rfl rfl sz_55 rfl rfl (show repl _ 0 (fzc (n, false, bz0)) = fzc (n, false, bz0) from rfl) ?_)
          refine GL.nil ?_
          refine GX.then ?_
          refine GC.seq ?_
          refine GC.reg ?_
          refine GL.val (rv_field fo_26_0 rfl rfl) rfl ?_
          refine GL.val (rv_load ag_22 rfl (Hd.cell (k := 5) rfl rfl)) rfl ?_
          refine GL.val (rv_move rfl) rfl ?_
          refine GL.val (rv_sub64 (b := 1) rfl rfl) rfl ?_
          refine GL.val (rv_elemJ (q := oe + (n.toNat - 1) * 1) (n.toNat - 1) es_22 (by rw [hAe]; rfl) rfl (by rw [sub1 (by omega)]) hlt rfl) rfl ?_
          refine GL.val (rv_load ag_46 rfl (Hd.cell0 ((hCe.fcat ec_len ((n.toNat - 1)) hlt) 0 _ rfl) (fun h => h))) rfl ?_
          refine GL.val (rv_assign rfl) rfl ?_
          refine GL.nil ?_
          refine GX.then ?_
          refine GC.seq ?_
          refine GC.seq ?_
          refine GC.reg ?_
          refine GL.val (rv_move rfl) rfl ?_
          refine GL.val (rv_move rfl) rfl ?_
          refine GL.step (ot_call hb_49 rfl (callOk fun w hh => by_c d.1.2[n.toNat - 1].1.1 d.1.2[n.toNat - 1].1.2 d.1.2[n.toNat - 1].2 nm w (hh.rd0n hRe) hsrt (by omega)) rfl fun _ _ => ?_)
          refine GL.val (rv_move rfl) rfl ?_
          refine GL.val (rv_extract rfl rfl) rfl ?_
          refine GL.val (rv_extract rfl rfl) rfl ?_
          refine GL.val (rv_assign rfl) rfl ?_
          refine GL.val (rv_assign rfl) rfl ?_
          refine GL.nil ?_
          refine GX.then ?_
          refine GC.seq ?_
          refine GC.reg ?_
          refine GL.val (rv_move rfl) rfl ?_
          refine GL.nil ?_
          refine GX.then ?_
          refine GC.cutq (γ := BindZ × List Fact) [16, 15, 14, 4, 3, 1] [5, 4, 3, 2, 1] (fun g Lk => Lk) (fun g Fk => .cl b16 (fzc (n, hasN (nms d.1.2[n.toNat - 1].2) nm, g.1)) 55 :: frzN g.2 :: Fk) (fun g => (bpl g.1 = bpl (atN d.1.2[n.toNat - 1].2 nm)) ∧ (Sbs [bfx g.1] g.2 []) ∧ (bOk g.1)) rfl rfl ?_ (fun ⟨zb, G⟩ ⟨hzp, hzs, hzo⟩ => ?_)
          · refine GC.condP rfl (fun c65 => ?_) (fun c65 => ?_)
            · have c65 : hasN (nms d.1.2[n.toNat - 1].2) nm = true := decide_eq_true c65
              have hl2 := hasN_lt c65
              have hat : atN d.1.2[n.toNat - 1].2 nm = d.1.2[n.toNat - 1].2[(lbn (nms d.1.2[n.toNat - 1].2) nm)] := by unfold atN; rw [if_pos c65, List.getD_eq_getElem?_getD, List.getElem?_eq_getElem hl2]; rfl
              have hcp := hoe.2.2
              obtain ⟨be2, oe2, hAb, hCb⟩ := slr_some hRe (fcat_ne bz_len (by decide) hl2)
              refine GC.draw 9 [0] mo_ ?_
              refine GD.pure1 (i := 0) rfl (fun _ _ => rv_move rfl) ?_
              refine GD.pure1 (i := 1) rfl (fun _ _ => rv_move rfl) ?_
              refine GD.pure1 (i := 2) rfl (fun _ _ => rv_move rfl) ?_
              refine GD.pure1 (i := 3) rfl (fun _ _ => rv_add rfl rfl (by omega) (by omega)) ?_
              refine GD.pure1 (i := 4) rfl (fun _ _ => rv_to (v' := .slice (some ⟨be2, oe2 + (lbn (nms d.1.2[n.toNat - 1].2) nm) * 3, none⟩) 1 (d.1.2[n.toNat - 1].1.2 - (lbn (nms d.1.2[n.toNat - 1].2) nm))) (rv_sl (A := d.1.2[n.toNat - 1].1.1) (len := d.1.2[n.toNat - 1].2.length) (cap := d.1.2[n.toNat - 1].1.2) (zl := some ((lbn (nms d.1.2[n.toNat - 1].2) nm) : Int)) (zh := some (((lbn (nms d.1.2[n.toNat - 1].2) nm) : Int) + 1)) (zm := none) es_46 rfl rfl rfl rfl rfl (lbn (nms d.1.2[n.toNat - 1].2) nm) ((lbn (nms d.1.2[n.toNat - 1].2) nm) + 1) d.1.2[n.toNat - 1].1.2 rfl (by show ((lbn (nms d.1.2[n.toNat - 1].2) nm) : Int) + 1 = _; omega) rfl (by omega) (by omega) (Nat.le_refl _)) (by rw [hAb, sAddr_lt (by omega)]; congr 1; omega)) ?_
              refine GD.pure1 (i := 8) rfl (fun _ _ => rv_field fo_55_1 rfl rfl) ?_
              refine GD.step (i := 5) (by kernel_rfl) rfl (ot_call hb_50 rfl (callOk fun w hh => copied_c (some ⟨be2, oe2 + (lbn (nms d.1.2[n.toNat - 1].2) nm) * 3, none⟩) (d.1.2[n.toNat - 1].1.2 - (lbn (nms d.1.2[n.toNat - 1].2) nm)) [d.1.2[n.toNat - 1].2[(lbn (nms d.1.2[n.toNat - 1].2) nm)]] w (fun f hf => by
          unfold efx at hf
          rcases List.mem_cons.1 hf with rfl | hf
          · rw [fcat_one]; exact .inr ⟨be2, _, rfl, Hd.cells0 (hCb.fcat bz_len (lbn (nms d.1.2[n.toNat - 1].2) nm) hl2) (fun x => x) w hh⟩
          · obtain ⟨x, hx, rfl⟩ := List.mem_map.1 hf
            obtain rfl := List.mem_singleton.1 hx
            exact hh.rd0n (hD _ (dfx_ep hem _ (efx_b (List.getElem_mem hl2))))) ⟨fun x hx => (by obtain rfl := List.mem_singleton.1 hx; exact hoe.1 _ (List.getElem_mem hl2)), (by dsimp only; simp), (by dsimp only; simp only [List.length_singleton]; omega)⟩ (fun x hx => (by obtain rfl := List.mem_singleton.1 hx; exact rt_keys hre _ (List.getElem_mem hl2)))) rfl fun g71 h71 => ⟨.inr fun _ h => h.pk [1], ?_⟩)
              obtain ⟨⟨⟨A71, k71⟩, l71⟩, G71⟩ := g71
              obtain ⟨hp71, hs71, ho71⟩ := h71
              obtain ⟨z71, rfl, hz71⟩ := one_of_map (x := d.1.2[n.toNat - 1].2[(lbn (nms d.1.2[n.toNat - 1].2) nm)]) hp71
              dsimp only at hs71 ho71 ⊢
              have hm71 : (A71, fcat bzc [z71]) ∈ G71 := by
                rcases hs71 _ (efx_hd _) with h | h | h
                · cases h
                · exact h
                · cases h
              refine GD.fact (p := ∃ b o, A71 = some ⟨b, o, none⟩) (fun w9 h9 => by obtain ⟨b, o, h, _⟩ := slr_some (h9.frzN (k := 0) rfl _ hm71) (by simp [fcat, bzc, bcell]); exact ⟨b, o, h⟩) fun hf71 => ?_
              obtain ⟨b71, o71, rfl⟩ := hf71
              refine GD.pure1 (i := 6) rfl (fun _ _ => rv_elemJ (q := o71) 0 es_46 rfl rfl rfl (by simp) (by omega)) ?_
              refine GD.eachN2 (i := 7) (j := 9) (by kernel_rfl) rfl rfl ?_ ?_
              · refine ot_val (rv_loadA ag_49 rfl (fun w9 h9 => slr_cells (us := bzc z71) (h9.frzN (k := 0) rfl _ hm71) (by simp [bzc, bcell])) (by exact sz_49)) rfl ⟨.inr fun _ h => h.pk [1], ?_⟩
                refine GD.step (i := 9) (by kernel_rfl) rfl (ot_store (k := 1) rfl rfl rfl rfl sz_4 rfl rfl (show repl (fzc (n, false, bz0)) 1 [.bool true] = fzc (n, true, bz0) from rfl) ⟨.inl rfl, ?_⟩)
                refine GD.pure1 (i := 10) rfl (fun _ _ => rv_field fo_55_2 rfl rfl) ?_
                refine GD.step (i := 11) (by kernel_rfl) rfl (ot_store (k := 1) rfl rfl rfl rfl sz_49 rfl rfl (show repl (fzc (n, true, bz0)) 2 (bzc z71) = fzc (n, true, z71) from rfl) ⟨.inl rfl, ?_⟩)
                refine GD.done (by kernel_rfl) ?_
                exact GX.cutq (z71, G71) ⟨by rw [hat]; exact hz71, hs71.sub (fun f hf => by obtain rfl := List.mem_singleton.1 hf; exact efx_b (e := ((some ⟨b71, o71, none⟩, k71), [z71])) (List.mem_singleton.2 rfl)), ho71.1 _ (List.mem_singleton.2 rfl)⟩ (by repeat (first | exact Sub.nil | refine Sub.cons rfl ?_)) (fun w9 h => by
                    have h := h.sel [6, 5, 4, 3, 2, 0, 1] rfl rfl
                    rw [c65]
                    exact h)
              · refine ot_store (k := 1) rfl rfl rfl rfl sz_4 rfl rfl (show repl (fzc (n, false, bz0)) 1 [.bool true] = fzc (n, true, bz0) from rfl) ⟨.inl rfl, ?_⟩
                refine GD.step (i := 7) (by kernel_rfl) rfl (ot_val (rv_loadA ag_49 rfl (fun w9 h9 => slr_cells (us := bzc z71) (h9.frzN (k := 0) rfl _ hm71) (by simp [bzc, bcell])) (by exact sz_49)) rfl ⟨.inl rfl, ?_⟩)
                refine GD.pure1 (i := 10) rfl (fun _ _ => rv_field fo_55_2 rfl rfl) ?_
                refine GD.step (i := 11) (by kernel_rfl) rfl (ot_store (k := 1) rfl rfl rfl rfl sz_49 rfl rfl (show repl (fzc (n, true, bz0)) 2 (bzc z71) = fzc (n, true, z71) from rfl) ⟨.inl rfl, ?_⟩)
                refine GD.done (by kernel_rfl) ?_
                exact GX.cutq (z71, G71) ⟨by rw [hat]; exact hz71, hs71.sub (fun f hf => by obtain rfl := List.mem_singleton.1 hf; exact efx_b (e := ((some ⟨b71, o71, none⟩, k71), [z71])) (List.mem_singleton.2 rfl)), ho71.1 _ (List.mem_singleton.2 rfl)⟩ (by repeat (first | exact Sub.nil | refine Sub.cons rfl ?_)) (fun w9 h => by
                    have h := h.sel [6, 5, 4, 3, 2, 0, 1] rfl rfl
                    rw [c65]
                    exact h)
            · have c65 : hasN (nms d.1.2[n.toNat - 1].2) nm = false := decide_eq_false c65
              have hat : atN d.1.2[n.toNat - 1].2 nm = bz0 := by unfold atN; rw [if_neg (by rw [c65]; decide)]
              refine GC.skip ?_
              exact GX.cutq (bz0, []) ⟨by rw [hat], Sbs.cons (.inl rfl) (Sbs.nil _ _), ⟨by decide, Nat.le_refl _⟩⟩ (by repeat (first | exact Sub.nil | refine Sub.cons rfl ?_)) (fun w9 h => by
                  have h := h.frzN0
                  have h := h.sel [6, 5, 4, 3, 2, 0, 1] rfl rfl
                  rw [c65]
                  exact h)
          dsimp only at hzp hzs hzo ⊢
          refine GX.then ?_
          refine GC.reg ?_
          refine GL.val (rv_move rfl) rfl ?_
          refine GL.val (rv_loadA ag_55 rfl (Hd.cells (k := 0) rfl (us := fzc (n, hasN (nms d.1.2[n.toNat - 1].2) nm, zb)) rfl) (by exact sz_55)) rfl ?_
          refine GL.step (ot_buildSlice ei_70 rfl rfl rfl rfl rfl rfl fun b78 => ?_)
          refine GL.step (ot_append (k := 3) (news := fzc (n, hasN (nms d.1.2[n.toNat - 1].2) nm, zb)) ei_70 rfl rfl rfl rfl (fun w h => .inr ⟨b78, 0, rfl, Hd.cellsAll (k := 0) rfl w h⟩) rfl (by omega) (by decide) rfl fun A79 c79 z79 => ?_)
          refine GL.val (rv_assign rfl) rfl ?_
          refine GL.nil ?_
          refine GX.blk ?_
          refine GX.then ?_
          refine GC.reg ?_
          refine GL.val (rv_move rfl) rfl ?_
          refine GL.val (rv_add64 (b := 1) rfl rfl) rfl ?_
          refine GL.val (rv_assign rfl) rfl ?_
          refine GL.nil ?_
          exact GX.round (n + 1, i + 1, fs1 ++ [(n, hasN (nms d.1.2[n.toNat - 1].2) nm, zb)], (A79, c79), G ++ F) (by dsimp only; rw [add1 (by omega)]; omega) ⟨by dsimp only; rw [add1 (by omega)]; omega, .inr (by dsimp only; rw [add1 (by omega)]; omega), by rw [List.map_append, hf, histL_s hn (by omega) (by rw [hln]; exact hlt), List.map_singleton, at_pl hsrt hzp, show (dpl d).1[n.toNat - 1]'(by rw [hln]; exact hlt) = epl d.1.2[n.toNat - 1] from List.getElem_map ..], by rw [List.map_append]; exact hs.l.app (fun f hf => (hzs f hf).imp id fun h => h.elim (fun h => .inl (List.mem_append_left _ h)) (fun h => by cases h)), (fun b hb => (List.mem_append.1 hb).elim (ho b) (fun hb => by obtain rfl := List.mem_singleton.1 hb; exact hzo)), fun h => absurd (z79 h) (by omega), fun h => absurd h (by dsimp only; omega)⟩ (by repeat (first | exact Sub.nil | refine Sub.cons rfl ?_)) (fun w9 h => by
              have h := h.sel [7, 6, 5, 3, 4, 2] rfl rfl
              have h := h.frzNAdd
              have h := h.sel [4, 3, 2, 0, 1] rfl rfl
              rw [fcat_app, fcat_one]
              exact h)
        · skip
          refine GC.exit ?_
          refine GX.then_exit ?_
          refine GX.then_exit ?_
          refine GX.blk_eq ?_
          refine GX.then ?_
          refine GC.seq ?_
          refine GC.seq ?_
          refine GC.reg ?_
          refine GL.val (rv_move rfl) rfl ?_
          refine GL.val (rv_slNil Try.underlying70 rfl rfl) rfl ?_
          refine GL.nil ?_
          refine GX.then ?_
          refine GC.cond rfl (fun c81 => ?_) (fun c81 => ?_)
          · have hi0 : i = 0 := hn1 (by simpa using c81)
            have hgt : to.toNat < fr.toNat := by omega
            refine GC.seq ?_
            refine GC.reg ?_
            refine GL.val (rv_assign rfl) rfl ?_
            refine GL.val (rv_assign rfl) rfl ?_
            refine GL.nil ?_
            refine GX.then ?_
            refine GC.ret ?_
            refine GX.then_ret ?_
            refine GX.ret2 rfl (RR.tmp rfl) (RR.tmp rfl) ?_
            exact fun w9 h => ⟨(((none, 0), []), []), (by rw [hist_gt hck hn0 hA0 hA1 hgt] <;> rfl), by
                have h := h.sel [] rfl rfl
                have h := (h.take 0).frzN0
                exact h, ⟨by rw [hist_gt hck hn0 hA0 hA1 hgt] <;> rfl, Sbs.cons (.inl rfl) (Sbs.nil _ _), fun z h => (by cases h)⟩⟩
          · have hi1 : i ≠ 0 := fun h => by rw [hn2 h] at c81; cases c81
            have hgt : ¬ to.toNat < fr.toNat := by omega
            obtain rfl : i = to.toNat + 1 - fr.toNat := by omega
            have hfl : fs1.length = to.toNat + 1 - fr.toNat := by have := congrArg List.length hf; unfold histL at this; rwa [List.length_map, List.length_map, List.length_range] at this
            refine GC.skip ?_
            refine GX.then ?_
            refine GC.seq ?_
            refine GC.reg ?_
            refine GL.val (rv_move rfl) rfl ?_
            refine GL.val (rv_assign rfl) rfl ?_
            refine GL.val (rv_assign rfl) rfl ?_
            refine GL.nil ?_
            refine GX.then ?_
            refine GC.ret ?_
            refine GX.ret2 rfl (RR.tmp rfl) (RR.tmp rfl) ?_
            exact fun w9 h => ⟨((rF, fs1), [(rF.1, fcat fzc fs1)] ++ F), (by rw [hist_ok hck hn0 hA0 hA1 hgt, hfl]), by
                have h := h.sel [1, 0] rfl rfl
                have h := h.rowFrz (k := 0) rfl
                have h := h.frzNAdd
                exact h, ⟨by rw [hist_ok hck hn0 hA0 hA1 hgt, hf], Sbs.cons (.inr (.inl (List.mem_cons_self ..))) hs.l, ho⟩⟩
end Go.Proofs.Ytkifeeiafachpaa
