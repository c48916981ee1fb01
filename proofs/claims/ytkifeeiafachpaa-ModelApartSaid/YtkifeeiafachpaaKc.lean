import Derived.Test.YtkifeeiafachpaaKb
set_option linter.unusedVariables false
set_option linter.unusedSimpArgs false
namespace Go.Proofs.Ytkifeeiafachpaa
open Go Go.RowKit Go.Bz

theorem slr3 {w : World} {A : Option Addr} {l : List BindZ} {b o : Nat} (h : SlR w A (fcat bzc l)) (hA : A = some ⟨b, o, none⟩) (k : Nat) (hk : k < l.length) : Cells w b (o + k * 3) (bzc l[k]) := by
  subst hA
  exact (slr_cells h (fcat_ne bz_len (by decide) hk)).fcat bz_len k hk
theorem nm_z {d : DirZ} (hN : Nms (dpl d)) {i k : Nat} (h1 : 1 ≤ i) (hi : i < d.1.2.length) (hk : k < (d.1.2[i - 1]'(by omega)).2.length) : ∃ y, fdZ d.1.2[i].2 ((d.1.2[i - 1]'(by omega)).2[k]).1 = some y ∧ ((d.1.2[i - 1]'(by omega)).2[k]).2.2.2.toNat ≤ y.2.2.2.toNat ∧ (y.2.2.2 = ((d.1.2[i - 1]'(by omega)).2[k]).2.2.2 → y.2.1 = ((d.1.2[i - 1]'(by omega)).2[k]).2.1) := by
  have hln : (dpl d).1.length = d.1.2.length := by show (d.1.2.map epl).length = _; rw [List.length_map]
  have h := hN (i - 1) (by rw [hln]; omega)
  have e0 : (dpl d).1[i - 1]'(by rw [hln]; omega) = (d.1.2[i - 1]'(by omega)).2.map bpl := List.getElem_map ..
  have e1 : (dpl d).1[i - 1 + 1]'(by rw [hln]; omega) = d.1.2[i].2.map bpl := by
    have : (dpl d).1[i]'(by rw [hln]; omega) = d.1.2[i].2.map bpl := List.getElem_map ..
    rw [← this]; congr 1; omega
  rw [e0, e1] at h
  obtain ⟨y, hy, h2, h3⟩ := h (bpl ((d.1.2[i - 1]'(by omega)).2[k])) (List.mem_map_of_mem (List.getElem_mem hk))
  rw [show (bpl ((d.1.2[i - 1]'(by omega)).2[k])).1 = ((d.1.2[i - 1]'(by omega)).2[k]).1 from rfl, fdZ_pl] at hy
  cases hf : fdZ d.1.2[i].2 ((d.1.2[i - 1]'(by omega)).2[k]).1 with
  | none => rw [hf] at hy; cases hy
  | some z =>
    rw [hf] at hy
    simp only [Option.map_some, Option.some.injEq] at hy
    subst hy
    exact ⟨z, rfl, h2, h3⟩
set_option maxRecDepth 100000 in
set_option maxHeartbeats 1000000 in
theorem names_law (A : Option Addr) (c : Nat) (os : List OpZ) (w : World) (hR : SlR w A (fcat ozc os)) (hof : Has w (os.map ofx)) (ho1 : ∀ o ∈ os, oOk1 o) : Calls Try.prog 6 [.slice A os.length c].toArray w fun e w' => ∃ _g : Unit, e = .returned (.bool true) ∧ St noB w w' [] ∧ True := by
  refine GC.calls Try.func6 rfl rfl (St.begin _) ?_
  have ho0 : ∀ o ∈ os, oOk0 o := fun o ho => (ho1 o ho).2.2.1
  refine GC.seq ?_
  refine GC.reg ?_
  refine GL.val (rv_assign rfl) rfl ?_
  refine GL.nil ?_
  refine GX.then ?_
  refine GC.seq ?_
  refine GC.seq ?_
  refine GC.reg ?_
  refine GL.val (rv_move rfl) rfl ?_
  refine GL.step (ot_call hb_10 rfl (callOk fun w hh => few_b _ A _ c os w (hh.rd0n hR) ho0 rfl rfl) rfl fun _ _ => ?_)
  refine GL.val (rv_not rfl) rfl ?_
  refine GL.nil ?_
  refine GX.then ?_
  refine GC.cond rfl (fun c12 => ?_) (fun c12 => ?_)
  · skip
    refine GC.seq ?_
    refine GC.reg ?_
    refine GL.step (ot_call hb_11 rfl (callOk fun w hh => mworks_c w) rfl fun _ _ => ?_)
    refine GL.val (rv_assign rfl) rfl ?_
    refine GL.nil ?_
    refine GX.then ?_
    refine GC.ret ?_
    refine GX.then_ret ?_
    refine GX.ret1 rfl (RR.tmp rfl) ?_
    exact fun w9 h => ⟨(), rfl, by
        exact h, trivial⟩
  · have hfw : FewP os := by simpa using c12
    refine GC.skip ?_
    refine GX.then ?_
    refine GC.seq ?_
    refine GC.reg ?_
    refine GL.step (ot_call hb_15 rfl (callOk fun w hh => mnew_c w) rfl fun _ _ => ?_)
    refine GL.step (ot_alloc (zs := [.slice none 0 0, .slice none 0 0, .int .u64 0]) zb_26 rfl rfl fun b3 => ?_)
    refine GL.step (ot_store (k := 0) rfl rfl rfl rfl sz_26 rfl rfl (show repl _ 0 (dcell dzN) = dcell dzN from rfl) ?_)
    refine GL.nil ?_
    refine GX.then ?_
    refine GC.seq ?_
    refine GC.seq ?_
    refine GC.reg ?_
    refine GL.val (rv_assign rfl) rfl ?_
    refine GL.nil ?_
    refine GX.then ?_
    refine GC.block ?_
    refine GC.loopK (γ := Nat × DirZ × List Fact) [3, 0] [] (fun g Lk => (4, .int .i64 (g.1 : Int)) :: Lk) (fun g Fk => .cl b3 (dcell g.2.1) 26 :: frzN g.2.2 :: Fk) (fun g => (g.1 ≤ os.length) ∧ (dpl g.2.1 = (((os).map opl).take g.1).foldl nextD dNew) ∧ (Sbs (dfx g.2.1) g.2.2 (os.map ofx)) ∧ (dOk g.2.1)) (fun g => os.length - g.1) (0, dzN, []) rfl rfl ⟨Nat.zero_le _, rfl, sb_new, dok_new 1⟩ (by repeat (first | exact Sub.nil | refine Sub.cons rfl ?_)) (fun w9 h => by
        have h := h.frzN0
        have h := h.sel [0, 1] rfl rfl
        exact h) (fun ⟨i, d, F⟩ ⟨hi, hx, hs, hox⟩ => ?_)
    dsimp only at hi hx hs hox ⊢
    refine GC.seq ?_
    refine GC.seq ?_
    refine GC.reg ?_
    refine GL.val (rv_move rfl) rfl ?_
    refine GL.val (rv_move rfl) rfl ?_
    refine GL.val (rv_lenSl Try.underlying36 rfl) rfl ?_
    refine GL.val (rv_lss rfl rfl) rfl ?_
    refine GL.nil ?_
    refine GX.then ?_
    refine GC.condP rfl (fun c18 => ?_) (fun c18 => ?_)
    · have hlt : i < os.length := by omega
      have h60 := hfw.1
      obtain ⟨b, o, hAo, hC⟩ := slr_some hR (fcat_ne (oz_len ho0) (by decide) hlt)
      have hom : os[i] ∈ os := List.getElem_mem _
      have hoi := oOk_of ho1 hfw hom
      have hol : (ozc os[i]).length = 39 := oz_len ho0 _ hom
      refine GC.skip ?_
      refine GX.then ?_
      refine GC.seq ?_
      refine GC.block ?_
      refine GC.draw 11 [0] mo_ ?_
      refine GD.pure1 (i := 2) rfl (fun _ _ => rv_move rfl) ?_
      refine GD.pure1 (i := 3) rfl (fun _ _ => rv_move rfl) ?_
      refine GD.pure1 (i := 4) rfl (fun _ _ => rv_elemJ (q := o + i * 39) i es_36 (by rw [hAo]; rfl) rfl rfl hlt rfl) ?_
      refine GD.read1 (i := 0) rfl (rv_loadA ag_26 rfl (Hd.cells (k := 0) rfl (us := dcell d) rfl) (by exact sz_26)) ?_
      refine GD.read1 (i := 1) rfl (rv_loadA ag_26 rfl (Hd.cells (k := 0) rfl (us := dcell d) rfl) (by exact sz_26)) ?_
      refine GD.step (i := 5) (by kernel_rfl) rfl (ot_val (rv_loadAL ag_33 rfl (Hd.cells0 (hC.fcat (oz_len ho0) i hlt) (fun h => h)) (by exact sz_33) hol) rfl ⟨.inr fun _ h => h.pk [0], ?_⟩)
      refine GD.step (i := 6) (by kernel_rfl) rfl (ot_call hb_14 rfl (callOk fun w hh => step_c d d os[i] w (hs.has hh (k := 1) rfl hof) (hs.has hh (k := 1) rfl hof) hox hox rfl ((has_of hof hom).lift hh) hoi) rfl fun g28 h28 => ⟨.inr fun _ h => h.pk [1], ?_⟩)
      refine GD.pure1 (i := 7) rfl (fun _ _ => rv_move rfl) ?_
      refine GD.pure1 (i := 8) rfl (fun _ _ => rv_extract rfl rfl) ?_
      refine GD.pure1 (i := 9) rfl (fun _ _ => rv_extract rfl rfl) ?_
      refine GD.pure1 (i := 10) rfl (fun _ _ => rv_extract rfl rfl) ?_
      refine GD.step (i := 11) (by kernel_rfl) rfl (ot_store (k := 1) rfl rfl rfl rfl sz_26 rfl rfl (show repl (dcell d) 0 (dcell g28.1.1) = dcell g28.1.1 from rfl) ⟨.inl rfl, ?_⟩)
      refine GD.done (by kernel_rfl) ?_
      refine GX.blk ?_
      refine GX.then ?_
      refine GC.reg ?_
      refine GL.val (rv_move rfl) rfl ?_
      refine GL.val (rv_add rfl rfl (by omega) (by omega)) rfl ?_
      refine GL.val (rv_assign rfl) rfl ?_
      refine GL.nil ?_
      obtain ⟨hp1, hp2, hsb, ho1x, ho1y⟩ := h28
      exact GX.round (i + 1, g28.1.1, g28.2 ++ F) (by dsimp only; omega) ⟨by dsimp only; omega, by rw [foldl_s hlt, ← hx]; exact hp1, sb_step1 hsb hs (List.mem_map_of_mem hom), ho1x⟩ (by repeat (first | exact Sub.nil | refine Sub.cons rfl ?_)) (fun w9 h => by
          have h := h.sel [1, 2, 0] rfl rfl
          have h := h.frzNAdd
          have h := h.sel [0, 1] rfl rfl
          exact h)
    · obtain rfl : i = os.length := by omega
      rw [List.take_of_length_le (by rw [List.length_map]; omega)] at hx
      have hxd : dpl d = runD (os.map opl) := hx
      have hN : Nms (dpl d) := hxd ▸ Nms_run _
      have hsd := hs
      have hod := hox
      have hd1 := hod.2.2.1
      clear hs hox hx
      refine GC.exit ?_
      refine GX.then_exit ?_
      refine GX.then_exit ?_
      refine GX.blk_eq ?_
      refine GX.then ?_
      refine GC.seq ?_
      refine GC.seq ?_
      refine GC.reg ?_
      refine GL.val (rv_assign rfl) rfl ?_
      refine GL.nil ?_
      refine GX.then ?_
      refine GC.block ?_
      refine GC.loopK (γ := Nat) [3] [1, 0] (fun g Lk => (5, .int .i64 (g : Int)) :: Lk) (fun g Fk => Fk) (fun g => 1 ≤ g ∧ g ≤ d.1.2.length + 1) (fun g => d.1.2.length + 1 - g) (1) rfl rfl ⟨Nat.le_refl _, by omega⟩ (by repeat (first | exact Sub.nil | refine Sub.cons rfl ?_)) (fun w9 h => by
          exact h) (fun i hi9 => ?_)
      skip
      refine GC.seq ?_
      refine GC.seq ?_
      refine GC.reg ?_
      refine GL.val (rv_move rfl) rfl ?_
      refine GL.val (rv_field fo_26_0 rfl rfl) rfl ?_
      refine GL.val (rv_load ag_22 rfl (Hd.cell (k := 0) rfl rfl)) rfl ?_
      refine GL.val (rv_lenSl Try.underlying22 rfl) rfl ?_
      refine GL.val (rv_lss rfl rfl) rfl ?_
      refine GL.nil ?_
      refine GX.then ?_
      refine GC.condP rfl (fun c36 => ?_) (fun c36 => ?_)
      · have hi1 : i < d.1.2.length := by omega
        have hi0 : i - 1 < d.1.2.length := by omega
        have hem0 : d.1.2[i - 1] ∈ d.1.2 := List.getElem_mem hi0
        have hem1 : d.1.2[i] ∈ d.1.2 := List.getElem_mem hi1
        have hel0 := (hod.1 _ hem0).2.1
        refine GC.fact (p := ∃ b o, d.1.1.1 = some ⟨b, o, none⟩) (fun w9 h9 => by obtain ⟨b, o, h, _⟩ := slr_some ((hsd.has h9 (k := 1) rfl hof) _ (dfx_e d)) (fcat_ne ec_len (by decide) hi1); exact ⟨b, o, h⟩) fun hq1 => ?_
        obtain ⟨ba, oa, hAa⟩ := hq1
        refine GC.skip ?_
        refine GX.then ?_
        refine GC.seq ?_
        refine GC.block ?_
        refine GC.seq ?_
        refine GC.reg ?_
        refine GL.val (rv_assign rfl) rfl ?_
        refine GL.nil ?_
        refine GX.then ?_
        refine GC.block ?_
        refine GC.loopK (γ := Nat) [5, 3] [1, 0] (fun g Lk => (6, .int .i64 (g : Int)) :: Lk) (fun g Fk => Fk) (fun g => g ≤ d.1.2[i - 1].2.length) (fun g => d.1.2[i - 1].2.length - g) (0) rfl rfl (Nat.zero_le _) (by repeat (first | exact Sub.nil | refine Sub.cons rfl ?_)) (fun w9 h => by
            exact h) (fun k hk9 => ?_)
        skip
        refine GC.seq ?_
        refine GC.seq ?_
        refine GC.reg ?_
        refine GL.val (rv_move rfl) rfl ?_
        refine GL.val (rv_field fo_26_0 rfl rfl) rfl ?_
        refine GL.val (rv_load ag_22 rfl (Hd.cell (k := 0) rfl rfl)) rfl ?_
        refine GL.val (rv_move rfl) rfl ?_
        refine GL.val (rv_to (v' := .int .i64 ((i - 1 : Nat) : Int)) (rv_sub rfl rfl (by omega) (by omega)) (congrArg (Value.int .i64) (by omega))) rfl ?_
        refine GL.val (rv_elemJ (q := oa + (i - 1) * 1) (i - 1) es_22 (by rw [hAa]; rfl) rfl rfl hi0 rfl) rfl ?_
        refine GL.val (rv_load ag_46 rfl (fun w9 h9 => slr1 ((hsd.has h9 (k := 1) rfl hof) _ (dfx_e d)) hAa (i - 1) hi0)) rfl ?_
        refine GL.val (rv_lenSl Try.underlying46 rfl) rfl ?_
        refine GL.val (rv_lss rfl rfl) rfl ?_
        refine GL.nil ?_
        refine GX.then ?_
        refine GC.condP rfl (fun c47 => ?_) (fun c47 => ?_)
        · have hk1 : k < d.1.2[i - 1].2.length := by omega
          obtain ⟨y, hyf, hys, hyk⟩ := nm_z hN hi9.1 hi1 hk1
          have hym : y ∈ d.1.2[i].2 := List.mem_of_find?_eq_some hyf
          refine GC.fact (p := ∃ b o, d.1.2[i - 1].1.1 = some ⟨b, o, none⟩) (fun w9 h9 => by obtain ⟨b, o, h, _⟩ := slr_some ((hsd.has h9 (k := 1) rfl hof) _ (dfx_ep hem0 _ (efx_hd _))) (fcat_ne bz_len (by decide) hk1); exact ⟨b, o, h⟩) fun hq2 => ?_
          obtain ⟨bb, ob, hAb⟩ := hq2
          refine GC.skip ?_
          refine GX.then ?_
          refine GC.seq ?_
          refine GC.block ?_
          refine GC.seq ?_
          refine GC.reg ?_
          refine GL.val (rv_field fo_26_0 rfl rfl) rfl ?_
          refine GL.val (rv_load ag_22 rfl (Hd.cell (k := 0) rfl rfl)) rfl ?_
          refine GL.val (rv_move rfl) rfl ?_
          refine GL.val (rv_to (v' := .int .i64 ((i - 1 : Nat) : Int)) (rv_sub rfl rfl (by omega) (by omega)) (congrArg (Value.int .i64) (by omega))) rfl ?_
          refine GL.val (rv_elemJ (q := oa + (i - 1) * 1) (i - 1) es_22 (by rw [hAa]; rfl) rfl rfl hi0 rfl) rfl ?_
          refine GL.val (rv_load ag_46 rfl (fun w9 h9 => slr1 ((hsd.has h9 (k := 1) rfl hof) _ (dfx_e d)) hAa (i - 1) hi0)) rfl ?_
          refine GL.val (rv_move rfl) rfl ?_
          refine GL.val (rv_elemJ (q := ob + k * 3) k es_46 (by rw [hAb]; rfl) rfl rfl hk1 rfl) rfl ?_
          refine GL.val (rv_loadA ag_49 rfl (fun w9 h9 => slr3 ((hsd.has h9 (k := 1) rfl hof) _ (dfx_ep hem0 _ (efx_hd _))) hAb k hk1) (by exact sz_49)) rfl ?_
          refine GL.step (ot_alloc (zs := [.string ByteArray.empty, .slice none 0 0, .int .u64 0]) zb_49 rfl rfl fun b7 => ?_)
          refine GL.step (ot_store (k := 0) rfl rfl rfl rfl sz_49 rfl rfl (show repl _ 0 (bzc d.1.2[i - 1].2[k]) = bzc d.1.2[i - 1].2[k] from rfl) ?_)
          refine GL.nil ?_
          refine GX.then ?_
          refine GC.seq ?_
          refine GC.cutq (γ := Nat) [7, 6, 5, 3] [2, 1, 0] (fun g Lk => (8, .pointer (some ⟨g, 0, none⟩)) :: (9, .bool true) :: Lk) (fun g Fk => .cl g (bzc y) 49 :: Fk) (fun g => True) rfl rfl ?_ (fun p8 _ => ?_)
          · refine GC.draw 12 [1, 0, 2] mo_ ?_
            refine GD.pure1 (i := 0) rfl (fun _ _ => rv_field fo_26_0 rfl rfl) ?_
            refine GD.pure1 (i := 2) rfl (fun _ _ => rv_move rfl) ?_
            refine GD.pure1 (i := 5) rfl (fun _ _ => rv_field fo_49_0 rfl rfl) ?_
            refine GD.read1 (i := 1) rfl (rv_load ag_22 rfl (Hd.cell (k := 0) rfl rfl)) ?_
            refine GD.pure1 (i := 3) rfl (fun _ _ => rv_elemJ (q := oa + i * 1) i es_22 (by rw [hAa]; rfl) rfl rfl hi1 rfl) ?_
            refine GD.read1 (i := 4) rfl (rv_load ag_46 rfl (fun w9 h9 => slr1 ((hsd.has h9 (k := 2) rfl hof) _ (dfx_e d)) hAa (i) hi1)) ?_
            refine GD.read1 (i := 6) rfl (rv_load ag_9 rfl (Hd.cell (k := 1) rfl rfl)) ?_
            refine GD.eachN2 (i := 7) (j := 11) (by kernel_rfl) rfl rfl ?_ ?_
            · refine ot_call hb_18 rfl (callOk fun w hh => find_c d.1.2[i].1.1 d.1.2[i].1.2 d.1.2[i].2 d.1.2[i - 1].2[k].1 w ((hsd.has hh (k := 2) rfl hof) _ (dfx_ep hem1 _ (efx_hd _))) (hod.1 _ hem1).2.1) rfl fun _ _ => ⟨.inr fun _ h => h.pk [1, 0, 2], ?_⟩
              rw [hyf]
              refine GD.pure1 (i := 8) rfl (fun _ _ => rv_move rfl) ?_
              refine GD.pure1 (i := 9) rfl (fun _ _ => rv_extract rfl rfl) ?_
              refine GD.pure1 (i := 10) rfl (fun _ _ => rv_extract rfl rfl) ?_
              refine GD.step (i := 11) (by kernel_rfl) rfl (ot_alloc (zs := [.string ByteArray.empty, .slice none 0 0, .int .u64 0]) zb_49 rfl rfl fun b8 => ⟨.inr fun _ h => h.pk [2, 1, 3], ?_⟩)
              refine GD.step (i := 12) (by kernel_rfl) rfl (ot_store (k := 0) rfl rfl rfl rfl sz_49 rfl rfl (show repl _ 0 (bzc y) = bzc y from rfl) ⟨.inl rfl, ?_⟩)
              refine GD.pure1 (i := 13) rfl (fun _ _ => rv_assign rfl) ?_
              refine GD.done (by kernel_rfl) ?_
              exact GX.cutq (b8) trivial (by repeat (first | exact Sub.nil | refine Sub.cons rfl ?_)) (fun w9 h => by
                  exact h)
            · refine ot_alloc (zs := [.string ByteArray.empty, .slice none 0 0, .int .u64 0]) zb_49 rfl rfl fun b8 => ⟨.inr fun _ h => h.pk [2, 1, 3], ?_⟩
              refine GD.step (i := 7) (by kernel_rfl) rfl (ot_call hb_18 rfl (callOk fun w hh => find_c d.1.2[i].1.1 d.1.2[i].1.2 d.1.2[i].2 d.1.2[i - 1].2[k].1 w ((hsd.has hh (k := 3) rfl hof) _ (dfx_ep hem1 _ (efx_hd _))) (hod.1 _ hem1).2.1) rfl fun _ _ => ⟨.inr fun _ h => h.pk [2, 1, 3], ?_⟩)
              rw [hyf]
              refine GD.pure1 (i := 8) rfl (fun _ _ => rv_move rfl) ?_
              refine GD.pure1 (i := 9) rfl (fun _ _ => rv_extract rfl rfl) ?_
              refine GD.pure1 (i := 10) rfl (fun _ _ => rv_extract rfl rfl) ?_
              refine GD.step (i := 12) (by kernel_rfl) rfl (ot_store (k := 0) rfl rfl rfl rfl sz_49 rfl rfl (show repl _ 0 (bzc y) = bzc y from rfl) ⟨.inl rfl, ?_⟩)
              refine GD.pure1 (i := 13) rfl (fun _ _ => rv_assign rfl) ?_
              refine GD.done (by kernel_rfl) ?_
              exact GX.cutq (b8) trivial (by repeat (first | exact Sub.nil | refine Sub.cons rfl ?_)) (fun w9 h => by
                  exact h)
          refine GX.then ?_
          refine GC.seq ?_
          refine GC.cutq (γ := Unit) [6, 5, 3] [3, 2, 1, 0] (fun g Lk => (94, .bool false) :: Lk) (fun g Fk => Fk) (fun g => True) rfl rfl ?_ (fun _ _ => ?_)
          · by_cases hse : y.2.2.2 = d.1.2[i - 1].2[k].2.2.2
            · skip
              refine GC.reg ?_
              refine GL.val (rv_move rfl) rfl ?_
              refine GL.val (rv_not rfl) rfl ?_
              refine GL.val (rv_move rfl) rfl ?_
              refine GL.valT rfl (rv_field fo_49_2 rfl rfl) rfl ?_
              refine GL.valT rfl (rv_load ag_24 rfl (Hd.cell (k := 0) rfl rfl)) rfl ?_
              refine GL.valT rfl (rv_field fo_49_2 rfl rfl) rfl ?_
              refine GL.valT rfl (rv_load ag_24 rfl (Hd.cell (k := 1) rfl rfl)) rfl ?_
              refine GL.valT rfl (rv_to (v' := .bool false) (rv_lss rfl rfl) (by exact congrArg Value.bool (decide_eq_false (by omega)))) rfl ?_
              refine GL.val ((by exact rv_orF rfl rfl rfl)) rfl ?_
              refine GL.val (rv_move rfl) rfl ?_
              refine GL.valT rfl (rv_field fo_49_2 rfl rfl) rfl ?_
              refine GL.valT rfl (rv_load ag_24 rfl (Hd.cell (k := 0) rfl rfl)) rfl ?_
              refine GL.valT rfl (rv_field fo_49_2 rfl rfl) rfl ?_
              refine GL.valT rfl (rv_load ag_24 rfl (Hd.cell (k := 1) rfl rfl)) rfl ?_
              refine GL.valT rfl ((by exact rv_to (v' := .bool true) (rv_eq64 rfl rfl) (congrArg Value.bool (decide_eq_true hse)))) rfl ?_
              refine GL.valT rfl (rv_move rfl) rfl ?_
              refine GL.valT rfl (rv_field fo_49_1 rfl rfl) rfl ?_
              refine GL.valT rfl (rv_load ag_27 rfl (Hd.cell (k := 0) rfl rfl)) rfl ?_
              refine GL.valT rfl (rv_convBS (b := y.2.1) Try.underlying27 Try.underlying5 Try.underlying9 rfl (fun w9 h9 => (hsd.has h9 (k := 3) rfl hof) _ (dfx_ep hem1 _ (efx_b hym))) rfl) rfl ?_
              refine GL.valT rfl (rv_field fo_49_1 rfl rfl) rfl ?_
              refine GL.valT rfl (rv_load ag_27 rfl (Hd.cell (k := 1) rfl rfl)) rfl ?_
              refine GL.valT rfl (rv_convBS (b := d.1.2[i - 1].2[k].2.1) Try.underlying27 Try.underlying5 Try.underlying9 rfl (fun w9 h9 => (hsd.has h9 (k := 3) rfl hof) _ (dfx_ep hem0 _ (efx_b (List.getElem_mem hk1)))) rfl) rfl ?_
              refine GL.valT rfl (rv_to (v' := .bool false) (rv_neS rfl rfl) (by rw [hyk hse]; simp)) rfl ?_
              refine GL.valT rfl ((by exact rv_andT rfl rfl rfl)) rfl ?_
              refine GL.val ((by exact rv_orF rfl rfl rfl)) rfl ?_
              refine GL.nil ?_
              exact GX.cutq () trivial (by repeat (first | exact Sub.nil | refine Sub.cons rfl ?_)) (fun w9 h => by
                  exact h)
            · skip
              refine GC.reg ?_
              refine GL.val (rv_move rfl) rfl ?_
              refine GL.val (rv_not rfl) rfl ?_
              refine GL.val (rv_move rfl) rfl ?_
              refine GL.valT rfl (rv_field fo_49_2 rfl rfl) rfl ?_
              refine GL.valT rfl (rv_load ag_24 rfl (Hd.cell (k := 0) rfl rfl)) rfl ?_
              refine GL.valT rfl (rv_field fo_49_2 rfl rfl) rfl ?_
              refine GL.valT rfl (rv_load ag_24 rfl (Hd.cell (k := 1) rfl rfl)) rfl ?_
              refine GL.valT rfl (rv_to (v' := .bool false) (rv_lss rfl rfl) (by exact congrArg Value.bool (decide_eq_false (by omega)))) rfl ?_
              refine GL.val ((by exact rv_orF rfl rfl rfl)) rfl ?_
              refine GL.val (rv_move rfl) rfl ?_
              refine GL.valT rfl (rv_field fo_49_2 rfl rfl) rfl ?_
              refine GL.valT rfl (rv_load ag_24 rfl (Hd.cell (k := 0) rfl rfl)) rfl ?_
              refine GL.valT rfl (rv_field fo_49_2 rfl rfl) rfl ?_
              refine GL.valT rfl (rv_load ag_24 rfl (Hd.cell (k := 1) rfl rfl)) rfl ?_
              refine GL.valT rfl ((by exact rv_to (v' := .bool false) (rv_eq64 rfl rfl) (congrArg Value.bool (decide_eq_false hse)))) rfl ?_
              refine GL.valT rfl (rv_move rfl) rfl ?_
              refine GL.skipG rfl rfl ?_
              refine GL.skipG rfl rfl ?_
              refine GL.skipG rfl rfl ?_
              refine GL.skipG rfl rfl ?_
              refine GL.skipG rfl rfl ?_
              refine GL.skipG rfl rfl ?_
              refine GL.skipG rfl rfl ?_
              refine GL.valT rfl ((by exact rv_andF rfl rfl rfl)) rfl ?_
              refine GL.val ((by exact rv_orF rfl rfl rfl)) rfl ?_
              refine GL.nil ?_
              exact GX.cutq () trivial (by repeat (first | exact Sub.nil | refine Sub.cons rfl ?_)) (fun w9 h => by
                  exact h)
          refine GX.then ?_
          refine GC.cond rfl (fun c94 => ?_) (fun c94 => ?_)
          · cases c94
          · skip
            refine GC.skip ?_
            refine GX.blk ?_
            refine GX.then ?_
            refine GC.reg ?_
            refine GL.val (rv_move rfl) rfl ?_
            refine GL.val (rv_add rfl rfl (by omega) (by omega)) rfl ?_
            refine GL.val (rv_assign rfl) rfl ?_
            refine GL.nil ?_
            exact GX.round (k + 1) (by omega) (by omega) (by repeat (first | exact Sub.nil | refine Sub.cons rfl ?_)) (fun w9 h => by
                have h := h.sel [3, 2] rfl rfl
                exact h)
        · skip
          refine GC.exit ?_
          refine GX.then_exit ?_
          refine GX.then_exit ?_
          refine GX.blk_eq ?_
          refine GX.blk ?_
          refine GX.then ?_
          refine GC.reg ?_
          refine GL.val (rv_move rfl) rfl ?_
          refine GL.val (rv_add rfl rfl (by omega) (by omega)) rfl ?_
          refine GL.val (rv_assign rfl) rfl ?_
          refine GL.nil ?_
          exact GX.round (i + 1) (by omega) ⟨by omega, by omega⟩ (by repeat (first | exact Sub.nil | refine Sub.cons rfl ?_)) (fun w9 h => by
              exact h)
      · skip
        refine GC.exit ?_
        refine GX.then_exit ?_
        refine GX.then_exit ?_
        refine GX.blk_eq ?_
        refine GX.then ?_
        refine GC.seq ?_
        refine GC.reg ?_
        refine GL.step (ot_call hb_11 rfl (callOk fun w hh => mworks_c w) rfl fun _ _ => ?_)
        refine GL.val (rv_assign rfl) rfl ?_
        refine GL.nil ?_
        refine GX.then ?_
        refine GC.ret ?_
        refine GX.ret1 rfl (RR.tmp rfl) ?_
        exact fun w9 h => ⟨(), rfl, by
            have h := h.sel [] rfl rfl
            exact h, trivial⟩
theorem prune_cases {d : Dz} {to : UInt64} (h : ckP d) : ((to.toNat < 1 ∨ d.1.length < to.toNat) ∧ (pruneP d to).1 = 10) ∨ (¬ (to.toNat < 1 ∨ d.1.length < to.toNat) ∧ pruneP d to = (0, (d.1, d.2.1, if d.2.2.toNat < to.toNat then to else d.2.2))) := by
  by_cases f : to.toNat < 1 ∨ d.1.length < to.toNat
  · exact .inl ⟨f, by rw [prune_no h f]⟩
  · exact .inr ⟨f, prune_ok h f⟩
theorem prune_look {d : Dz} {to e : UInt64} {nm : ByteArray} (h : ckP d) (f : ¬ (to.toNat < 1 ∨ d.1.length < to.toNat)) :
    ((e.toNat < to.toNat ∧ 1 ≤ e.toNat ∧ okn nm = true) → (lookP (d.1, d.2.1, if d.2.2.toNat < to.toNat then to else d.2.2) nm e).1 = 11) ∧
    (¬ (e.toNat < to.toNat ∧ 1 ≤ e.toNat ∧ okn nm = true) → lookP (d.1, d.2.1, if d.2.2.toNat < to.toNat then to else d.2.2) nm e = lookP d nm e) := by
  have h' := ck_prune h f
  by_cases k : okn nm = true
  · refine ⟨fun ⟨h1, h2, _⟩ => ?_, fun hn => ?_⟩
    · have ha : ansE (d.1, d.2.1, if d.2.2.toNat < to.toNat then to else d.2.2) e = 11 := by
        unfold ansE; rw [if_neg (by dsimp only; omega), if_pos (by dsimp only; split <;> omega)]
      rw [look_an h' k (by rw [ha]; decide), ha]
    · have ha : ansE (d.1, d.2.1, if d.2.2.toNat < to.toNat then to else d.2.2) e = ansE d e := by
        unfold ansE; dsimp only
        by_cases b : e.toNat < 1 ∨ d.1.length < e.toNat
        · rw [if_pos b, if_pos b]
        · rw [if_neg b, if_neg b]
          have hge : ¬ e.toNat < to.toNat := fun q => hn ⟨q, by omega, k⟩
          by_cases c : e.toNat < d.2.2.toNat
          · rw [if_pos c, if_pos (by split <;> omega)]
          · rw [if_neg c, if_neg (by split <;> omega)]
      by_cases a : ansE d e = 0
      · rw [look_ok h k a, look_ok h' k (ha.trans a)]
      · rw [look_an h k a, look_an h' k (by rw [ha]; exact a), ha]
  · have k' : okn nm = false := by simpa using k
    exact ⟨fun ⟨_, _, q⟩ => absurd q k, fun _ => by rw [look_nm h k', look_nm h' k']⟩
theorem has2 {w0 w : World} {Fs : List Pc} {k1 k2 : Nat} {R F1 F2 J I : List Fact} (h1 : Sbs R F1 J) (h2 : Sbs J F2 I) (hh : Hd noB w0 w Fs) (e1 : Fs[k1]? = some (Bz.frzN F1)) (e2 : Fs[k2]? = some (Bz.frzN F2)) (hI : Has w0 I) : Has w R := fun f hf =>
  (h1 f hf).elim (fun h => .inl h) fun h => h.elim (fun h => hh.frzN e1 f h) fun h => h2.has hh e2 hI f h
set_option maxRecDepth 100000 in
set_option maxHeartbeats 1000000 in
theorem prunes_law (A : Option Addr) (c : Nat) (os : List OpZ) (w : World) (hR : SlR w A (fcat ozc os)) (hof : Has w (os.map ofx)) (ho1 : ∀ o ∈ os, oOk1 o) (to : UInt64) (nm : ByteArray) (ep : UInt64) (hnm : nm.size < 4611686018427387904) : Calls Try.prog 7 [.slice A os.length c, v64 to, .string nm, v64 ep].toArray w fun e w' => ∃ _g : Unit, e = .returned (.bool true) ∧ St noB w w' [] ∧ True := by
  refine GC.calls Try.func7 rfl rfl (St.begin _) ?_
  have ho0 : ∀ o ∈ os, oOk0 o := fun o ho => (ho1 o ho).2.2.1
  refine GC.seq ?_
  refine GC.reg ?_
  refine GL.val (rv_assign rfl) rfl ?_
  refine GL.nil ?_
  refine GX.then ?_
  refine GC.seq ?_
  refine GC.seq ?_
  refine GC.reg ?_
  refine GL.val (rv_move rfl) rfl ?_
  refine GL.step (ot_call hb_10 rfl (callOk fun w hh => few_b _ A _ c os w (hh.rd0n hR) ho0 rfl rfl) rfl fun _ _ => ?_)
  refine GL.val (rv_not rfl) rfl ?_
  refine GL.nil ?_
  refine GX.then ?_
  refine GC.cond rfl (fun c19 => ?_) (fun c19 => ?_)
  · skip
    refine GC.seq ?_
    refine GC.reg ?_
    refine GL.step (ot_call hb_11 rfl (callOk fun w hh => mworks_c w) rfl fun _ _ => ?_)
    refine GL.val (rv_assign rfl) rfl ?_
    refine GL.nil ?_
    refine GX.then ?_
    refine GC.ret ?_
    refine GX.then_ret ?_
    refine GX.ret1 rfl (RR.tmp rfl) ?_
    exact fun w9 h => ⟨(), rfl, by
        exact h, trivial⟩
  · have hfw : FewP os := by simpa using c19
    refine GC.skip ?_
    refine GX.then ?_
    refine GC.seq ?_
    refine GC.reg ?_
    refine GL.step (ot_call hb_15 rfl (callOk fun w hh => mnew_c w) rfl fun _ _ => ?_)
    refine GL.step (ot_alloc (zs := [.slice none 0 0, .slice none 0 0, .int .u64 0]) zb_26 rfl rfl fun b9 => ?_)
    refine GL.step (ot_store (k := 0) rfl rfl rfl rfl sz_26 rfl rfl (show repl _ 0 (dcell dzN) = dcell dzN from rfl) ?_)
    refine GL.nil ?_
    refine GX.then ?_
    refine GC.seq ?_
    refine GC.seq ?_
    refine GC.reg ?_
    refine GL.val (rv_assign rfl) rfl ?_
    refine GL.nil ?_
    refine GX.then ?_
    refine GC.block ?_
    refine GC.loopK (γ := Nat × DirZ × List Fact) [9, 3, 2, 1, 0] [] (fun g Lk => (10, .int .i64 (g.1 : Int)) :: Lk) (fun g Fk => .cl b9 (dcell g.2.1) 26 :: frzN g.2.2 :: Fk) (fun g => (g.1 ≤ os.length) ∧ (dpl g.2.1 = (((os).map opl).take g.1).foldl nextD dNew) ∧ (Sbs (dfx g.2.1) g.2.2 (os.map ofx)) ∧ (dOk g.2.1)) (fun g => os.length - g.1) (0, dzN, []) rfl rfl ⟨Nat.zero_le _, rfl, sb_new, dok_new 1⟩ (by repeat (first | exact Sub.nil | refine Sub.cons rfl ?_)) (fun w9 h => by
        have h := h.frzN0
        have h := h.sel [0, 1] rfl rfl
        exact h) (fun ⟨i, d, F⟩ ⟨hi, hx, hs, hox⟩ => ?_)
    dsimp only at hi hx hs hox ⊢
    refine GC.seq ?_
    refine GC.seq ?_
    refine GC.reg ?_
    refine GL.val (rv_move rfl) rfl ?_
    refine GL.val (rv_move rfl) rfl ?_
    refine GL.val (rv_lenSl Try.underlying36 rfl) rfl ?_
    refine GL.val (rv_lss rfl rfl) rfl ?_
    refine GL.nil ?_
    refine GX.then ?_
    refine GC.condP rfl (fun c25 => ?_) (fun c25 => ?_)
    · have hlt : i < os.length := by omega
      have h60 := hfw.1
      obtain ⟨b, o, hAo, hC⟩ := slr_some hR (fcat_ne (oz_len ho0) (by decide) hlt)
      have hom : os[i] ∈ os := List.getElem_mem _
      have hoi := oOk_of ho1 hfw hom
      have hol : (ozc os[i]).length = 39 := oz_len ho0 _ hom
      refine GC.skip ?_
      refine GX.then ?_
      refine GC.seq ?_
      refine GC.block ?_
      refine GC.draw 11 [0] mo_ ?_
      refine GD.pure1 (i := 2) rfl (fun _ _ => rv_move rfl) ?_
      refine GD.pure1 (i := 3) rfl (fun _ _ => rv_move rfl) ?_
      refine GD.pure1 (i := 4) rfl (fun _ _ => rv_elemJ (q := o + i * 39) i es_36 (by rw [hAo]; rfl) rfl rfl hlt rfl) ?_
      refine GD.read1 (i := 0) rfl (rv_loadA ag_26 rfl (Hd.cells (k := 0) rfl (us := dcell d) rfl) (by exact sz_26)) ?_
      refine GD.read1 (i := 1) rfl (rv_loadA ag_26 rfl (Hd.cells (k := 0) rfl (us := dcell d) rfl) (by exact sz_26)) ?_
      refine GD.step (i := 5) (by kernel_rfl) rfl (ot_val (rv_loadAL ag_33 rfl (Hd.cells0 (hC.fcat (oz_len ho0) i hlt) (fun h => h)) (by exact sz_33) hol) rfl ⟨.inr fun _ h => h.pk [0], ?_⟩)
      refine GD.step (i := 6) (by kernel_rfl) rfl (ot_call hb_14 rfl (callOk fun w hh => step_c d d os[i] w (hs.has hh (k := 1) rfl hof) (hs.has hh (k := 1) rfl hof) hox hox rfl ((has_of hof hom).lift hh) hoi) rfl fun g35 h35 => ⟨.inr fun _ h => h.pk [1], ?_⟩)
      refine GD.pure1 (i := 7) rfl (fun _ _ => rv_move rfl) ?_
      refine GD.pure1 (i := 8) rfl (fun _ _ => rv_extract rfl rfl) ?_
      refine GD.pure1 (i := 9) rfl (fun _ _ => rv_extract rfl rfl) ?_
      refine GD.pure1 (i := 10) rfl (fun _ _ => rv_extract rfl rfl) ?_
      refine GD.step (i := 11) (by kernel_rfl) rfl (ot_store (k := 1) rfl rfl rfl rfl sz_26 rfl rfl (show repl (dcell d) 0 (dcell g35.1.1) = dcell g35.1.1 from rfl) ⟨.inl rfl, ?_⟩)
      refine GD.done (by kernel_rfl) ?_
      refine GX.blk ?_
      refine GX.then ?_
      refine GC.reg ?_
      refine GL.val (rv_move rfl) rfl ?_
      refine GL.val (rv_add rfl rfl (by omega) (by omega)) rfl ?_
      refine GL.val (rv_assign rfl) rfl ?_
      refine GL.nil ?_
      obtain ⟨hp1, hp2, hsb, ho1x, ho1y⟩ := h35
      exact GX.round (i + 1, g35.1.1, g35.2 ++ F) (by dsimp only; omega) ⟨by dsimp only; omega, by rw [foldl_s hlt, ← hx]; exact hp1, sb_step1 hsb hs (List.mem_map_of_mem hom), ho1x⟩ (by repeat (first | exact Sub.nil | refine Sub.cons rfl ?_)) (fun w9 h => by
          have h := h.sel [1, 2, 0] rfl rfl
          have h := h.frzNAdd
          have h := h.sel [0, 1] rfl rfl
          exact h)
    · obtain rfl : i = os.length := by omega
      rw [List.take_of_length_le (by rw [List.length_map]; omega)] at hx
      have hxd : dpl d = runD (os.map opl) := hx
      have hckd : ckP (dpl d) := hxd ▸ ck_run _
      have hsd := hs
      have hod := hox
      have hd1 := hod.2.2.1
      have hln : (dpl d).1.length = d.1.2.length := by show (d.1.2.map epl).length = _; rw [List.length_map]
      clear hs hox hx
      refine GC.exit ?_
      refine GX.then_exit ?_
      refine GX.then_exit ?_
      refine GX.blk_eq ?_
      refine GX.then ?_
      refine GC.seq ?_
      refine GC.reg ?_
      refine GL.val (rv_loadA ag_26 rfl (Hd.cells (k := 0) rfl (us := dcell d) rfl) (by exact sz_26)) rfl ?_
      refine GL.val (rv_move rfl) rfl ?_
      refine GL.step (ot_call hb_19 rfl (callOk fun w hh => prune_c d to w (hsd.has hh (k := 1) rfl hof) hod) rfl fun g42 h42 => ?_)
      obtain ⟨hp42, hs42, ho42⟩ := h42
      refine GL.val (rv_move rfl) rfl ?_
      refine GL.val (rv_extract rfl rfl) rfl ?_
      refine GL.val (rv_extract rfl rfl) rfl ?_
      refine GL.step (ot_alloc (zs := [.slice none 0 0, .slice none 0 0, .int .u64 0]) zb_26 rfl rfl fun b11 => ?_)
      refine GL.step (ot_store (k := 0) rfl rfl rfl rfl sz_26 rfl rfl (show repl _ 0 (dcell g42.1) = dcell g42.1 from rfl) ?_)
      refine GL.val (rv_assign rfl) rfl ?_
      refine GL.nil ?_
      refine GX.then ?_
      refine GC.seq ?_
      refine GC.seq ?_
      refine GC.reg ?_
      refine GL.val (rv_move rfl) rfl ?_
      refine GL.val (rv_neI rfl rfl) rfl ?_
      refine GL.nil ?_
      refine GX.then ?_
      refine GC.condP rfl (fun c46 => ?_) (fun c46 => ?_)
      · have hbad : to.toNat < 1 ∨ d.1.2.length < to.toNat := by
          rcases prune_cases (to := to) hckd with h | h
          · rw [← hln]; exact h.1
          · rw [h.2] at c46; exact absurd rfl c46
        refine GC.seq ?_
        refine GC.cutq (γ := Unit) [] [3, 2, 1, 0] (fun g Lk => (8, .bool true) :: Lk) (fun g Fk => Fk) (fun g => True) rfl rfl ?_ (fun _ _ => ?_)
        · rcases (by omega : to.toNat < 1 ∨ (1 ≤ to.toNat ∧ d.1.2.length < to.toNat)) with hz | hz
          · skip
            refine GC.reg ?_
            refine GL.val (rv_move rfl) rfl ?_
            refine GL.val ((by exact rv_to (v' := .bool true) (rv_lss rfl rfl) (congrArg Value.bool (decide_eq_true (by omega))))) rfl ?_
            refine GL.val (rv_move rfl) rfl ?_
            refine GL.skipG rfl rfl ?_
            refine GL.skipG rfl rfl ?_
            refine GL.skipG rfl rfl ?_
            refine GL.skipG rfl rfl ?_
            refine GL.skipG rfl rfl ?_
            refine GL.skipG rfl rfl ?_
            refine GL.val ((by exact rv_orT rfl rfl rfl)) rfl ?_
            refine GL.val (rv_move rfl) rfl ?_
            refine GL.stepG rfl (ot_call hb_11 rfl (callOk fun w hh => mworks_c w) rfl fun _ _ => ?_)
            refine GL.val ((by exact rv_andT rfl rfl rfl)) rfl ?_
            refine GL.val (rv_assign rfl) rfl ?_
            refine GL.nil ?_
            exact GX.cutq () trivial (by repeat (first | exact Sub.nil | refine Sub.cons rfl ?_)) (fun w9 h => by
                exact h)
          · skip
            refine GC.reg ?_
            refine GL.val (rv_move rfl) rfl ?_
            refine GL.val ((by exact rv_to (v' := .bool false) (rv_lss rfl rfl) (congrArg Value.bool (decide_eq_false (by omega))))) rfl ?_
            refine GL.val (rv_move rfl) rfl ?_
            refine GL.valT rfl (rv_move rfl) rfl ?_
            refine GL.valT rfl (rv_field fo_26_0 rfl rfl) rfl ?_
            refine GL.valT rfl (rv_load ag_22 rfl (Hd.cell (k := 2) rfl rfl)) rfl ?_
            refine GL.valT rfl (rv_lenSl Try.underlying22 rfl) rfl ?_
            refine GL.valT rfl (rv_conv64I d.1.2.length Try.underlying3 Try.underlying24 rfl rfl) rfl ?_
            refine GL.valT rfl ((by exact rv_to (v' := .bool true) (rv_gtr rfl rfl) (congrArg Value.bool (decide_eq_true (by rw [ofNat_toNat64 (by omega)]; omega))))) rfl ?_
            refine GL.val ((by exact rv_orF rfl rfl rfl)) rfl ?_
            refine GL.val (rv_move rfl) rfl ?_
            refine GL.stepG rfl (ot_call hb_11 rfl (callOk fun w hh => mworks_c w) rfl fun _ _ => ?_)
            refine GL.val ((by exact rv_andT rfl rfl rfl)) rfl ?_
            refine GL.val (rv_assign rfl) rfl ?_
            refine GL.nil ?_
            exact GX.cutq () trivial (by repeat (first | exact Sub.nil | refine Sub.cons rfl ?_)) (fun w9 h => by
                exact h)
        refine GX.then ?_
        refine GC.ret ?_
        refine GX.then_ret ?_
        refine GX.ret1 rfl (RR.tmp rfl) ?_
        exact fun w9 h => ⟨(), rfl, by
            have h := h.sel [] rfl rfl
            exact h, trivial⟩
      · obtain ⟨hok, hpr⟩ : ¬ (to.toNat < 1 ∨ (dpl d).1.length < to.toNat) ∧ pruneP (dpl d) to = (0, ((dpl d).1, (dpl d).2.1, if (dpl d).2.2.toNat < to.toNat then to else (dpl d).2.2)) := by
          rcases prune_cases (to := to) hckd with h | h
          · rw [h.2] at c46; exact absurd (by decide) c46
          · exact h
        have hlk := prune_look (e := ep) (nm := nm) hckd hok
        refine GC.skip ?_
        refine GX.then ?_
        refine GC.seq ?_
        refine GC.reg ?_
        refine GL.val (rv_loadA ag_26 rfl (Hd.cells (k := 2) rfl (us := dcell d) rfl) (by exact sz_26)) rfl ?_
        refine GL.val (rv_move rfl) rfl ?_
        refine GL.val (rv_move rfl) rfl ?_
        refine GL.step (ot_call hb_20 rfl (callOk fun w hh => look_c d nm ep w (hsd.has hh (k := 3) rfl hof) hod hnm) rfl fun g64 h64 => ?_)
        refine GL.val (rv_move rfl) rfl ?_
        refine GL.val (rv_extract rfl rfl) rfl ?_
        refine GL.val (rv_extract rfl rfl) rfl ?_
        refine GL.step (ot_alloc (zs := [.int .u64 0, .bool false, .string ByteArray.empty, .slice none 0 0, .int .u64 0]) zb_55 rfl rfl fun b13 => ?_)
        refine GL.step (ot_store (k := 0) rfl rfl rfl rfl sz_55 rfl rfl (show repl _ 0 (fzc g64.1) = fzc g64.1 from rfl) ?_)
        refine GL.val (rv_assign rfl) rfl ?_
        refine GL.nil ?_
        refine GX.then ?_
        refine GC.seq ?_
        refine GC.reg ?_
        refine GL.val (rv_loadA ag_26 rfl (Hd.cells (k := 2) rfl (us := dcell g42.1) rfl) (by exact sz_26)) rfl ?_
        refine GL.val (rv_move rfl) rfl ?_
        refine GL.val (rv_move rfl) rfl ?_
        refine GL.step (ot_call hb_20 rfl (callOk fun w hh => look_c g42.1 nm ep w (hs42.has hh (k := 3) rfl (has_nil _)) ho42 hnm) rfl fun g71 h71 => ?_)
        obtain ⟨hp71, hs71, ho71⟩ := h71
        rw [hp42, hpr]
        dsimp only
        refine GL.val (rv_move rfl) rfl ?_
        refine GL.val (rv_extract rfl rfl) rfl ?_
        refine GL.val (rv_extract rfl rfl) rfl ?_
        refine GL.step (ot_alloc (zs := [.int .u64 0, .bool false, .string ByteArray.empty, .slice none 0 0, .int .u64 0]) zb_55 rfl rfl fun b15 => ?_)
        refine GL.step (ot_store (k := 0) rfl rfl rfl rfl sz_55 rfl rfl (show repl _ 0 (fzc g71.1) = fzc g71.1 from rfl) ?_)
        refine GL.val (rv_assign rfl) rfl ?_
        refine GL.nil ?_
        refine GX.then ?_
        refine GC.seq ?_
        refine GC.seq ?_
        refine GC.cutq (γ := Unit) [16, 15, 14, 13] [7, 6, 5, 4, 3, 2, 1, 0] (fun g Lk => (84, .bool (decide (ep.toNat < to.toNat ∧ 1 ≤ ep.toNat ∧ okn nm = true))) :: Lk) (fun g Fk => Fk) (fun g => True) rfl rfl ?_ (fun _ _ => ?_)
        · rcases (by cases okn nm <;> simp; omega; omega : (¬ ep.toNat < to.toNat) ∨ (ep.toNat < to.toNat ∧ ¬ 1 ≤ ep.toNat) ∨ (ep.toNat < to.toNat ∧ 1 ≤ ep.toNat)) with h | h | h
          · rw [show decide (ep.toNat < to.toNat ∧ 1 ≤ ep.toNat ∧ okn nm = true) = false from decide_eq_false (fun q => h q.1)]
            refine GC.reg ?_
            refine GL.val (rv_move rfl) rfl ?_
            refine GL.val (rv_move rfl) rfl ?_
            refine GL.val ((by exact rv_to (v' := .bool false) (rv_lss rfl rfl) (congrArg Value.bool (decide_eq_false (by omega))))) rfl ?_
            refine GL.val (rv_move rfl) rfl ?_
            refine GL.skipG rfl rfl ?_
            refine GL.skipG rfl rfl ?_
            refine GL.val ((by exact rv_andF rfl rfl rfl)) rfl ?_
            refine GL.val (rv_move rfl) rfl ?_
            refine GL.skipG rfl rfl ?_
            refine GL.skipG rfl rfl ?_
            refine GL.val ((by exact rv_andF rfl rfl rfl)) rfl ?_
            refine GL.nil ?_
            exact GX.cutq () trivial (by repeat (first | exact Sub.nil | refine Sub.cons rfl ?_)) (fun w9 h => by
                exact h)
          · rw [show decide (ep.toNat < to.toNat ∧ 1 ≤ ep.toNat ∧ okn nm = true) = false from decide_eq_false (fun q => h.2 q.2.1)]
            refine GC.reg ?_
            refine GL.val (rv_move rfl) rfl ?_
            refine GL.val (rv_move rfl) rfl ?_
            refine GL.val ((by exact rv_to (v' := .bool true) (rv_lss rfl rfl) (congrArg Value.bool (decide_eq_true (by omega))))) rfl ?_
            refine GL.val (rv_move rfl) rfl ?_
            refine GL.valT rfl (rv_move rfl) rfl ?_
            refine GL.valT rfl ((by exact rv_to (v' := .bool false) (rv_geq rfl rfl) (congrArg Value.bool (decide_eq_false (by omega))))) rfl ?_
            refine GL.val ((by exact rv_andT rfl rfl rfl)) rfl ?_
            refine GL.val (rv_move rfl) rfl ?_
            refine GL.skipG rfl rfl ?_
            refine GL.skipG rfl rfl ?_
            refine GL.val ((by exact rv_andF rfl rfl rfl)) rfl ?_
            refine GL.nil ?_
            exact GX.cutq () trivial (by repeat (first | exact Sub.nil | refine Sub.cons rfl ?_)) (fun w9 h => by
                exact h)
          · rw [show decide (ep.toNat < to.toNat ∧ 1 ≤ ep.toNat ∧ okn nm = true) = okn nm from by rw [show decide (ep.toNat < to.toNat ∧ 1 ≤ ep.toNat ∧ okn nm = true) = decide (okn nm = true) from decide_eq_decide.2 ⟨fun q => q.2.2, fun q => ⟨h.1, h.2, q⟩⟩]; cases okn nm <;> rfl]
            refine GC.reg ?_
            refine GL.val (rv_move rfl) rfl ?_
            refine GL.val (rv_move rfl) rfl ?_
            refine GL.val ((by exact rv_to (v' := .bool true) (rv_lss rfl rfl) (congrArg Value.bool (decide_eq_true (by omega))))) rfl ?_
            refine GL.val (rv_move rfl) rfl ?_
            refine GL.valT rfl (rv_move rfl) rfl ?_
            refine GL.valT rfl ((by exact rv_to (v' := .bool true) (rv_geq rfl rfl) (congrArg Value.bool (decide_eq_true (by omega))))) rfl ?_
            refine GL.val ((by exact rv_andT rfl rfl rfl)) rfl ?_
            refine GL.val (rv_move rfl) rfl ?_
            refine GL.valT rfl (rv_move rfl) rfl ?_
            refine GL.stepG rfl (ot_call hb_21 rfl (callOk fun w hh => rname_c nm w hnm) rfl fun _ _ => ?_)
            refine GL.val ((by exact rv_andT rfl rfl rfl)) rfl ?_
            refine GL.nil ?_
            exact GX.cutq () trivial (by repeat (first | exact Sub.nil | refine Sub.cons rfl ?_)) (fun w9 h => by
                exact h)
        refine GX.then ?_
        refine GC.condP rfl (fun c84 => ?_) (fun c84 => ?_)
        · skip
          refine GC.seq ?_
          refine GC.reg ?_
          refine GL.val (rv_move rfl) rfl ?_
          refine GL.val (rv_to (v' := .bool true) (rv_eqI rfl rfl) (by rw [hlk.1 c84]; rfl)) rfl ?_
          refine GL.val (rv_move rfl) rfl ?_
          refine GL.stepG rfl (ot_call hb_11 rfl (callOk fun w hh => mworks_c w) rfl fun _ _ => ?_)
          refine GL.val ((by exact rv_andT rfl rfl rfl)) rfl ?_
          refine GL.val (rv_assign rfl) rfl ?_
          refine GL.nil ?_
          refine GX.then ?_
          refine GC.ret ?_
          refine GX.then_ret ?_
          refine GX.ret1 rfl (RR.tmp rfl) ?_
          exact fun w9 h => ⟨(), rfl, by
              have h := h.sel [] rfl rfl
              exact h, trivial⟩
        · skip
          refine GC.skip ?_
          refine GX.then ?_
          refine GC.seq ?_
          refine GC.reg ?_
          refine GL.val (rv_move rfl) rfl ?_
          refine GL.val (rv_move rfl) rfl ?_
          refine GL.val (rv_to (v' := .bool true) (rv_eqI rfl rfl) (by rw [hlk.2 c84]; simp)) rfl ?_
          refine GL.val (rv_move rfl) rfl ?_
          refine GL.valT rfl (rv_loadA ag_55 rfl (Hd.cells (k := 2) rfl (us := fzc g64.1) rfl) (by exact sz_55)) rfl ?_
          refine GL.valT rfl (rv_loadA ag_55 rfl (Hd.cells (k := 0) rfl (us := fzc g71.1) rfl) (by exact sz_55)) rfl ?_
          refine GL.stepG rfl (ot_call hb_22 rfl (callOk fun w hh => samef_t g64.1 g71.1 w (fun f hf => has2 h64.2.1 hsd hh (k1 := 3) (k2 := 7) rfl rfl hof f hf) (has0 hs71 hs42 hh (k1 := 1) (k2 := 5) rfl rfl) (by rw [h64.1, hp71, hp42, hpr, hlk.2 c84])) rfl fun _ _ => ?_)
          refine GL.val ((by exact rv_andT rfl rfl rfl)) rfl ?_
          refine GL.val (rv_move rfl) rfl ?_
          refine GL.stepG rfl (ot_call hb_11 rfl (callOk fun w hh => mworks_c w) rfl fun _ _ => ?_)
          refine GL.val ((by exact rv_andT rfl rfl rfl)) rfl ?_
          refine GL.val (rv_assign rfl) rfl ?_
          refine GL.nil ?_
          refine GX.then ?_
          refine GC.ret ?_
          refine GX.ret1 rfl (RR.tmp rfl) ?_
          exact fun w9 h => ⟨(), rfl, by
              have h := h.sel [] rfl rfl
              exact h, trivial⟩
end Go.Proofs.Ytkifeeiafachpaa
