import Derived.Test.YtkifeeiafachpaaJo
set_option linter.unusedVariables false
set_option linter.unusedSimpArgs false
namespace Go.Proofs.Ytkifeeiafachpaa
open Go Go.RowKit Go.Bz
theorem fo_33_0 : fieldOff Try.prog 33 0 = some 0 := by kernel_rfl
theorem fo_33_2 : fieldOff Try.prog 33 2 = some 36 := by kernel_rfl
theorem fo_33_3 : fieldOff Try.prog 33 3 = some 37 := by kernel_rfl
theorem fo_33_4 : fieldOff Try.prog 33 4 = some 38 := by kernel_rfl
theorem hb_16 : hasBody Try.prog 16 = true := by kernel_rfl
theorem hb_19 : hasBody Try.prog 19 = true := by kernel_rfl
theorem hb_29 : hasBody Try.prog 29 = true := by kernel_rfl
theorem hb_30 : hasBody Try.prog 30 = true := by kernel_rfl
theorem hb_31 : hasBody Try.prog 31 = true := by kernel_rfl
theorem hb_33 : hasBody Try.prog 33 = true := by kernel_rfl
theorem hb_34 : hasBody Try.prog 34 = true := by kernel_rfl
theorem hb_35 : hasBody Try.prog 35 = true := by kernel_rfl
def oOk (z : OpZ) : Prop := qOk z.2.1 ∧ z.2.2.1.size < 4611686018427387904
/-- what an act makes, and says; what stands behind it -/
def actP (d : Dz) (o : OpP) : Int × Dz := if o.1 = 0 then submitP d o.2.1 else if o.1 = 1 then sealP d else if o.1 = 4 then pruneP d o.2.2.2.2 else (0, d)
def nextD (d : Dz) (o : OpP) : Dz := if (actP d o).1 ≠ 0 then d else (actP d o).2
theorem same_t (a b : DirZ) (w : World) (ha : Has w (dfx a)) (hb : Has w (dfx b)) (hoka : dOk a) (hokb : dOk b) (h : dpl a = dpl b) : Calls Try.prog 16 [.agg (dcell a).toArray, .agg (dcell b).toArray].toArray w fun e w' => ∃ _g : Unit, e = .returned (.bool true) ∧ St noB w w' [] ∧ True := by
  have h1 := same_dc a b w ha hb hoka hokb
  rw [decide_eq_true h] at h1; exact h1
theorem samef_t (a b : FndZ) (w : World) (ha : Has w [zfx a]) (hb : Has w [zfx b]) (h : fpl a = fpl b) : Calls Try.prog 22 [.agg (fzc a).toArray, .agg (fzc b).toArray].toArray w fun e w' => ∃ _g : Unit, e = .returned (.bool true) ∧ St noB w w' [] ∧ True := by
  have h1 := samef_c a b w ha hb
  rw [decide_eq_true h] at h1; exact h1
theorem samea_t (a b : FsZ) (w : World) (ha : Has w (ffx a)) (hb : Has w (ffx b)) (hn : a.2.length ≤ 1000000) (h : a.2.map fpl = b.2.map fpl) : Calls Try.prog 34 [.slice a.1.1 a.2.length a.1.2, .slice b.1.1 b.2.length b.1.2].toArray w fun e w' => ∃ _g : Unit, e = .returned (.bool true) ∧ St noB w w' [] ∧ True := by
  have h1 := samea_c a b w ha hb hn
  rw [decide_eq_true h] at h1; exact h1
theorem act0 {d : Dz} {o : OpP} (h : o.1 = 0) : actP d o = submitP d o.2.1 := if_pos h
theorem act1 {d : Dz} {o : OpP} (h : o.1 = 1) : actP d o = sealP d := by unfold actP; rw [if_neg (by rw [h]; decide), if_pos h]
theorem act4 {d : Dz} {o : OpP} (h : o.1 = 4) : actP d o = pruneP d o.2.2.2.2 := by unfold actP; rw [if_neg (by rw [h]; decide), if_neg (by rw [h]; decide), if_pos h]
theorem actN {d : Dz} {o : OpP} (h0 : o.1 ≠ 0) (h1 : o.1 ≠ 1) (h4 : o.1 ≠ 4) : actP d o = (0, d) := by unfold actP; rw [if_neg h0, if_neg h1, if_neg h4]
theorem hist_le {d : Dz} {nm : ByteArray} {fr to : UInt64} (hd : d.1.length ≤ 1000000) : (histP d nm fr to).2.length ≤ 1000000 := by
  by_cases h : ckP d
  · by_cases k : okn nm = true
    · by_cases a : ansE d fr = 0
      · by_cases b : ansE d to = 0
        · by_cases c : to.toNat < fr.toNat
          · rw [hist_gt h k a b c]; exact Nat.zero_le _
          · rw [hist_ok h k a b c]
            have h0 := ans_0 a
            have h1 := ans_0 b
            unfold histL
            rw [List.length_map, List.length_range]; omega
        · rw [hist_to h k a b]; exact Nat.zero_le _
      · rw [hist_fr h k a]; exact Nat.zero_le _
    · rw [hist_nm h (by simpa using k)]; exact Nat.zero_le _
  · rw [hist_ck h]; exact Nat.zero_le _
theorem ozc_q {o : OpZ} (h : qOk o.2.1) : ((ozc o).drop 1).take (qzc o.2.1).length = qzc o.2.1 := by
  unfold ozc; rw [List.drop_succ_cons, List.drop_zero, List.take_left']; rfl
theorem ozc_at {o : OpZ} (h : qOk o.2.1) (k : Nat) : (ozc o)[36 + k]? = [Value.string o.2.2.1, v64 o.2.2.2.1, v64 o.2.2.2.2][k]? := by
  have hl : (qzc o.2.1).length = 35 := qc_len h.2.2.2
  unfold ozc
  rw [show 36 + k = (35 + k) + 1 by omega, List.getElem?_cons_succ, List.getElem?_append_right (by omega), hl, show 35 + k - 35 = k by omega]
set_option maxRecDepth 100000 in
set_option maxHeartbeats 1000000 in
theorem step_c (a b : DirZ) (o : OpZ) (w : World) (ha : Has w (dfx a)) (hb : Has w (dfx b)) (hoa : dOk a) (hob : dOk b) (hab : dpl a = dpl b) (hQ : Has w [rfx o.2.1]) (ho : oOk o) : Calls Try.prog 14 [.agg (dcell a).toArray, .agg (dcell b).toArray, .agg (ozc o).toArray].toArray w fun e w' => ∃ g : (DirZ × DirZ) × List Fact, e = .returned (.tuple #[.agg (dcell g.1.1).toArray, .agg (dcell g.1.2).toArray, .bool true]) ∧ St noB w w' [frzN g.2] ∧ (dpl g.1.1 = nextD (dpl a) (opl o) ∧ dpl g.1.2 = nextD (dpl a) (opl o) ∧ Sbs (dfx g.1.1 ++ dfx g.1.2) g.2 (rfx o.2.1 :: (dfx a ++ dfx b)) ∧ dOk g.1.1 ∧ dOk g.1.2) := by
  refine GC.calls Try.func14 rfl rfl (St.begin _) ?_
  have hql : (qzc o.2.1).length = 35 := qc_len ho.1.2.2.2
  refine GC.seq ?_
  refine GC.reg ?_
  refine GL.step (ot_box rfl rfl rfl fun b3 => ?_)
  refine GL.step (ot_box rfl rfl rfl fun b4 => ?_)
  refine GL.step (ot_box rfl rfl rfl fun b5 => ?_)
  refine GL.step (ot_alloc (zs := [.slice none 0 0, .slice none 0 0, .int .u64 0]) zb_26 rfl rfl fun b6 => ?_)
  refine GL.step (ot_alloc (zs := [.slice none 0 0, .slice none 0 0, .int .u64 0]) zb_26 rfl rfl fun b7 => ?_)
  refine GL.val (rv_assign rfl) rfl ?_
  refine GL.nil ?_
  refine GX.then ?_
  refine GC.seq ?_
  refine GC.reg ?_
  refine GL.val (rv_assign rfl) rfl ?_
  refine GL.val (rv_assign rfl) rfl ?_
  refine GL.nil ?_
  refine GX.then ?_
  refine GC.seq ?_
  refine GC.cutq (γ := Nat × Nat) [10, 9, 7, 6, 5, 4, 3] [4, 3, 2, 1, 0] (fun g Lk => (11, .pointer (some ⟨g.1, 0, none⟩)) :: (12, .pointer (some ⟨g.2, 0, none⟩)) :: Lk) (fun g Fk => .cl g.1 (dcell a) 26 :: .cl g.2 (dcell b) 26 :: Fk) (fun g => True) rfl rfl ?_ (fun ⟨p11, p12⟩ _ => ?_)
  · refine GC.draw 5 [4, 3] mo_ ?_
    refine GD.read1 (i := 0) rfl (rv_loadA ag_26 rfl (Hd.cells (k := 0) rfl (us := dcell a) rfl) (by exact sz_26)) ?_
    refine GD.read1 (i := 1) rfl (rv_loadA ag_26 rfl (Hd.cells (k := 1) rfl (us := dcell b) rfl) (by exact sz_26)) ?_
    refine GD.eachN2 (i := 2) (j := 3) (by kernel_rfl) rfl rfl ?_ ?_
    · refine ot_alloc (zs := [.slice none 0 0, .slice none 0 0, .int .u64 0]) zb_26 rfl rfl fun b11 => ⟨.inr fun _ h => h.pk [5, 4], ?_⟩
      refine GD.step (i := 3) (by kernel_rfl) rfl (ot_alloc (zs := [.slice none 0 0, .slice none 0 0, .int .u64 0]) zb_26 rfl rfl fun b12 => ⟨.inr fun _ h => h.pk [6, 5], ?_⟩)
      refine GD.step (i := 4) (by kernel_rfl) rfl (ot_store (k := 1) rfl rfl rfl rfl sz_26 rfl rfl (show repl _ 0 (dcell a) = dcell a from rfl) ⟨.inr fun _ h => h.pk [6, 5], ?_⟩)
      refine GD.step (i := 5) (by kernel_rfl) rfl (ot_store (k := 0) rfl rfl rfl rfl sz_26 rfl rfl (show repl _ 0 (dcell b) = dcell b from rfl) ⟨.inl rfl, ?_⟩)
      refine GD.done (by kernel_rfl) ?_
      exact GX.cutq (b11, b12) trivial (by repeat (first | exact Sub.nil | refine Sub.cons rfl ?_)) (fun w9 h => by
          have h := h.sel [6, 5, 4, 3, 2, 0, 1] rfl rfl
          exact h)
    · refine ot_alloc (zs := [.slice none 0 0, .slice none 0 0, .int .u64 0]) zb_26 rfl rfl fun b12 => ⟨.inr fun _ h => h.pk [5, 4], ?_⟩
      refine GD.step (i := 2) (by kernel_rfl) rfl (ot_alloc (zs := [.slice none 0 0, .slice none 0 0, .int .u64 0]) zb_26 rfl rfl fun b11 => ⟨.inr fun _ h => h.pk [6, 5], ?_⟩)
      refine GD.step (i := 4) (by kernel_rfl) rfl (ot_store (k := 0) rfl rfl rfl rfl sz_26 rfl rfl (show repl _ 0 (dcell a) = dcell a from rfl) ⟨.inr fun _ h => h.pk [6, 5], ?_⟩)
      refine GD.step (i := 5) (by kernel_rfl) rfl (ot_store (k := 1) rfl rfl rfl rfl sz_26 rfl rfl (show repl _ 0 (dcell b) = dcell b from rfl) ⟨.inl rfl, ?_⟩)
      refine GD.done (by kernel_rfl) ?_
      exact GX.cutq (b11, b12) trivial (by repeat (first | exact Sub.nil | refine Sub.cons rfl ?_)) (fun w9 h => by
          exact h)
  dsimp only
  refine GX.then ?_
  refine GC.seq ?_
  refine GC.seq ?_
  refine GC.reg ?_
  refine GL.val (rv_field fo_33_0 rfl rfl) rfl ?_
  refine GL.val (rv_load ag_3 rfl (Hd.cell (k := 4) rfl rfl)) rfl ?_
  refine GL.nil ?_
  refine GX.then ?_
  refine GC.cutq (γ := Int × DirZ × DirZ × List Fact) [12, 11, 7, 6, 4, 3] [6, 5, 4, 3, 2] (fun g Lk => (9, .int .i64 g.1) :: (10, .int .i64 g.1) :: Lk) (fun g Fk => .cl p11 (dcell g.2.1) 26 :: .cl p12 (dcell g.2.2.1) 26 :: frzN g.2.2.2 :: Fk) (fun g => (g.1 = (actP (dpl a) (opl o)).1) ∧ (dpl g.2.1 = (actP (dpl a) (opl o)).2) ∧ (dpl g.2.2.1 = (actP (dpl a) (opl o)).2) ∧ (Sbs (dfx g.2.1 ++ dfx g.2.2.1) g.2.2.2 (rfx o.2.1 :: (dfx a ++ dfx b))) ∧ (dOk g.2.1) ∧ (dOk g.2.2.1)) rfl rfl ?_ (fun ⟨e, x, y, G⟩ ⟨hee, hpx, hpy, hsxy, hox, hoy⟩ => ?_)
  · refine GC.block ?_
    refine GC.seq ?_
    refine GC.reg ?_
    refine GL.val (rv_eqI rfl rfl) rfl ?_
    refine GL.val (rv_assign rfl) rfl ?_
    refine GL.nil ?_
    refine GX.then ?_
    refine GC.condP rfl (fun c25 => ?_) (fun c25 => ?_)
    · have hac := act0 (d := dpl a) (o := opl o) c25
      refine GC.seq ?_
      refine GC.reg ?_
      refine GL.val (rv_loadA ag_26 rfl (Hd.cells (k := 6) rfl (us := dcell a) rfl) (by exact sz_26)) rfl ?_
      refine GL.val (rv_field fo_33_1 rfl rfl) rfl ?_
      refine GL.val (rv_loadAL ag_31 rfl (Hd.cells (k := 4) rfl (ozc_q ho.1)) (by exact sz_31) hql) rfl ?_
      refine GL.step (ot_call hb_23 rfl (callOk fun w hh => submit_c a w (ha.lift hh) hoa o.2.1 (hQ.lift hh) ho.1) rfl fun g31 h31 => ?_)
      refine GL.val (rv_move rfl) rfl ?_
      refine GL.val (rv_extract rfl rfl) rfl ?_
      refine GL.val (rv_extract rfl rfl) rfl ?_
      refine GL.step (ot_store (k := 1) rfl rfl rfl rfl sz_26 rfl rfl (show repl (dcell a) 0 (dcell g31.1) = dcell g31.1 from rfl) ?_)
      refine GL.val (rv_assign rfl) rfl ?_
      refine GL.nil ?_
      refine GX.then ?_
      refine GC.reg ?_
      refine GL.val (rv_loadA ag_26 rfl (Hd.cells (k := 6) rfl (us := dcell b) rfl) (by exact sz_26)) rfl ?_
      refine GL.val (rv_field fo_33_1 rfl rfl) rfl ?_
      refine GL.val (rv_loadAL ag_31 rfl (Hd.cells (k := 5) rfl (ozc_q ho.1)) (by exact sz_31) hql) rfl ?_
      refine GL.step (ot_call hb_29 rfl (callOk fun w hh => rsubmit_c b w (hb.lift hh) hob o.2.1 (hQ.lift hh) ho.1) rfl fun g38 h38 => ?_)
      rw [← hab]
      refine GL.val (rv_move rfl) rfl ?_
      refine GL.val (rv_extract rfl rfl) rfl ?_
      refine GL.val (rv_extract rfl rfl) rfl ?_
      refine GL.step (ot_store (k := 3) rfl rfl rfl rfl sz_26 rfl rfl (show repl (dcell b) 0 (dcell g38.1) = dcell g38.1 from rfl) ?_)
      refine GL.val (rv_assign rfl) rfl ?_
      refine GL.nil ?_
      refine GX.blk ?_
      obtain ⟨hp31, hs31, ho31⟩ := h31
      obtain ⟨hp38, hs38, ho38⟩ := h38
      exact GX.cutq ((actP (dpl a) (opl o)).1, g31.1, g38.1, g38.2 ++ g31.2) ⟨rfl, by rw [hp31, hac] <;> rfl, by rw [hp38, ← hab, hac] <;> rfl, (fun f hf => (List.mem_append.1 hf).elim (fun hf => (hs31 f hf).imp id fun h => h.elim (fun h => .inl (List.mem_append_right _ h)) (fun h => by cases h)) (fun hf => (hs38 f hf).imp id fun h => h.elim (fun h => .inl (List.mem_append_left _ h)) (fun h => .inr ((List.mem_cons.1 h).elim (fun e => e ▸ List.mem_cons_self ..) (fun h => List.mem_cons_of_mem _ (List.mem_append_right _ h)))))), ho31, ho38⟩ (by dsimp only; rw [hac]; repeat (first | exact Sub.nil | refine Sub.cons rfl ?_)) (fun w9 h => by
          have h := h.sel [8, 7, 6, 4, 5, 3, 2, 1, 0] rfl rfl
          have h := h.frzNAdd
          have h := h.sel [7, 6, 5, 3, 4, 0, 2, 1] rfl rfl
          exact h)
    · skip
      refine GC.seq ?_
      refine GC.reg ?_
      refine GL.val (rv_eqI rfl rfl) rfl ?_
      refine GL.val (rv_assign rfl) rfl ?_
      refine GL.nil ?_
      refine GX.then ?_
      refine GC.condP rfl (fun c41 => ?_) (fun c41 => ?_)
      · have hac := act1 (d := dpl a) (o := opl o) c41
        refine GC.seq ?_
        refine GC.reg ?_
        refine GL.val (rv_loadA ag_26 rfl (Hd.cells (k := 6) rfl (us := dcell a) rfl) (by exact sz_26)) rfl ?_
        refine GL.step (ot_call hb_24 rfl (callOk fun w hh => seal_c a w (ha.lift hh) hoa) rfl fun g45 h45 => ?_)
        refine GL.val (rv_move rfl) rfl ?_
        refine GL.val (rv_extract rfl rfl) rfl ?_
        refine GL.val (rv_extract rfl rfl) rfl ?_
        refine GL.step (ot_store (k := 1) rfl rfl rfl rfl sz_26 rfl rfl (show repl (dcell a) 0 (dcell g45.1) = dcell g45.1 from rfl) ?_)
        refine GL.val (rv_assign rfl) rfl ?_
        refine GL.nil ?_
        refine GX.then ?_
        refine GC.reg ?_
        refine GL.val (rv_loadA ag_26 rfl (Hd.cells (k := 6) rfl (us := dcell b) rfl) (by exact sz_26)) rfl ?_
        refine GL.step (ot_call hb_30 rfl (callOk fun w hh => rseal_c b w (hb.lift hh) hob) rfl fun g50 h50 => ?_)
        rw [← hab]
        refine GL.val (rv_move rfl) rfl ?_
        refine GL.val (rv_extract rfl rfl) rfl ?_
        refine GL.val (rv_extract rfl rfl) rfl ?_
        refine GL.step (ot_store (k := 3) rfl rfl rfl rfl sz_26 rfl rfl (show repl (dcell b) 0 (dcell g50.1) = dcell g50.1 from rfl) ?_)
        refine GL.val (rv_assign rfl) rfl ?_
        refine GL.nil ?_
        refine GX.blk ?_
        obtain ⟨hp45, hs45, ho45⟩ := h45
        obtain ⟨hp50, hs50, ho50⟩ := h50
        exact GX.cutq ((actP (dpl a) (opl o)).1, g45.1, g50.1, g50.2 ++ g45.2) ⟨rfl, by rw [hp45, hac] <;> rfl, by rw [hp50, ← hab, hac] <;> rfl, (fun f hf => (List.mem_append.1 hf).elim (fun hf => (hs45 f hf).imp id fun h => h.elim (fun h => .inl (List.mem_append_right _ h)) (fun h => by cases h)) (fun hf => (hs50 f hf).imp id fun h => h.elim (fun h => .inl (List.mem_append_left _ h)) (fun h => .inr (List.mem_cons_of_mem _ (List.mem_append_right _ h))))), ho45, ho50⟩ (by dsimp only; rw [hac]; repeat (first | exact Sub.nil | refine Sub.cons rfl ?_)) (fun w9 h => by
            have h := h.sel [8, 7, 6, 4, 5, 3, 2, 1, 0] rfl rfl
            have h := h.frzNAdd
            have h := h.sel [7, 6, 5, 3, 4, 0, 2, 1] rfl rfl
            exact h)
      · skip
        refine GC.seq ?_
        refine GC.reg ?_
        refine GL.val (rv_eqI rfl rfl) rfl ?_
        refine GL.val (rv_assign rfl) rfl ?_
        refine GL.nil ?_
        refine GX.then ?_
        refine GC.condP rfl (fun c53 => ?_) (fun c53 => ?_)
        · have hac := actN (d := dpl a) (o := opl o) c25 c41 (by rw [show (opl o).1 = 2 from c53]; decide)
          refine GC.seq ?_
          refine GC.reg ?_
          refine GL.val (rv_loadA ag_26 rfl (Hd.cells (k := 6) rfl (us := dcell a) rfl) (by exact sz_26)) rfl ?_
          refine GL.val (rv_field fo_33_2 rfl rfl) rfl ?_
          refine GL.val (rv_load ag_9 rfl (Hd.cell (k := 4) rfl (ozc_at ho.1 0))) rfl ?_
          refine GL.val (rv_field fo_33_3 rfl rfl) rfl ?_
          refine GL.val (rv_load ag_24 rfl (Hd.cell (k := 4) rfl (ozc_at ho.1 1))) rfl ?_
          refine GL.step (ot_call hb_20 rfl (callOk fun w hh => look_c a o.2.2.1 o.2.2.2.1 w (ha.lift hh) hoa ho.2) rfl fun g61 h61 => ?_)
          refine GL.val (rv_move rfl) rfl ?_
          refine GL.val (rv_extract rfl rfl) rfl ?_
          refine GL.val (rv_extract rfl rfl) rfl ?_
          refine GL.step (ot_alloc (zs := [.int .u64 0, .bool false, .string ByteArray.empty, .slice none 0 0, .int .u64 0]) zb_55 rfl rfl fun b13 => ?_)
          refine GL.step (ot_store (k := 0) rfl rfl rfl rfl sz_55 rfl rfl (show repl _ 0 (fzc g61.1) = fzc g61.1 from rfl) ?_)
          refine GL.val (rv_assign rfl) rfl ?_
          refine GL.nil ?_
          refine GX.then ?_
          refine GC.seq ?_
          refine GC.reg ?_
          refine GL.val (rv_loadA ag_26 rfl (Hd.cells (k := 7) rfl (us := dcell b) rfl) (by exact sz_26)) rfl ?_
          refine GL.val (rv_field fo_33_2 rfl rfl) rfl ?_
          refine GL.val (rv_load ag_9 rfl (Hd.cell (k := 6) rfl (ozc_at ho.1 0))) rfl ?_
          refine GL.val (rv_field fo_33_3 rfl rfl) rfl ?_
          refine GL.val (rv_load ag_24 rfl (Hd.cell (k := 6) rfl (ozc_at ho.1 1))) rfl ?_
          refine GL.step (ot_call hb_31 rfl (callOk fun w hh => rlook_c b o.2.2.1 o.2.2.2.1 w (hb.lift hh) hob ho.2) rfl fun g70 h70 => ?_)
          rw [← hab]
          refine GL.val (rv_move rfl) rfl ?_
          refine GL.val (rv_extract rfl rfl) rfl ?_
          refine GL.val (rv_extract rfl rfl) rfl ?_
          refine GL.step (ot_alloc (zs := [.int .u64 0, .bool false, .string ByteArray.empty, .slice none 0 0, .int .u64 0]) zb_55 rfl rfl fun b15 => ?_)
          refine GL.step (ot_store (k := 0) rfl rfl rfl rfl sz_55 rfl rfl (show repl _ 0 (fzc g70.1) = fzc g70.1 from rfl) ?_)
          refine GL.val (rv_assign rfl) rfl ?_
          refine GL.nil ?_
          refine GX.then ?_
          refine GC.seq ?_
          refine GC.draw 12 [10, 9, 2, 0] mo_ ?_
          refine GD.pure1 (i := 2) rfl (fun _ _ => rv_move rfl) ?_
          refine GD.pure1 (i := 3) rfl (fun _ _ => rv_move rfl) ?_
          refine GD.pure1 (i := 4) rfl (fun _ _ => rv_to (v' := .bool true) (rv_eqI rfl rfl) (by simp)) ?_
          refine GD.pure1 (i := 5) rfl (fun _ _ => rv_move rfl) ?_
          refine GD.read1 (i := 0) rfl (rv_loadA ag_26 rfl (Hd.cells (k := 0) rfl (us := dcell a) rfl) (by exact sz_26)) ?_
          refine GD.read1 (i := 1) rfl (rv_loadA ag_26 rfl (Hd.cells (k := 1) rfl (us := dcell b) rfl) (by exact sz_26)) ?_
          refine GD.readG1 (i := 6) rfl rfl (rv_loadA ag_55 rfl (Hd.cells (k := 2) rfl (us := fzc g61.1) rfl) (by exact sz_55)) ?_
          refine GD.stepG (i := 7) (by kernel_rfl) rfl rfl (ot_val (rv_loadA ag_55 rfl (Hd.cells (k := 0) rfl (us := fzc g70.1) rfl) (by exact sz_55)) rfl ⟨.inr fun _ h => h.pk [10, 9, 2, 0], ?_⟩)
          refine GD.stepG (i := 8) (by kernel_rfl) rfl rfl (ot_call hb_22 rfl (callOk fun w hh => samef_t g61.1 g70.1 w (h61.2.1.has hh (k := 3) rfl ha) (h70.2.1.has hh (k := 1) rfl hb) (by rw [h61.1, h70.1, hab])) rfl fun _ _ => ⟨.inr fun _ h => h.pk [10, 9, 2, 0], ?_⟩)
          refine GD.pure1 (i := 9) rfl (fun _ _ => (by exact rv_andT rfl rfl rfl)) ?_
          refine GD.step (i := 10) (by kernel_rfl) rfl (ot_store (k := 7) rfl rfl rfl rfl sz_26 rfl rfl (show repl _ 0 (dcell a) = dcell a from rfl) ⟨.inr fun _ h => h.pk [10, 9, 2, 0], ?_⟩)
          refine GD.step (i := 11) (by kernel_rfl) rfl (ot_store (k := 6) rfl rfl rfl rfl sz_26 rfl rfl (show repl _ 0 (dcell b) = dcell b from rfl) ⟨.inr fun _ h => h.pk [10, 9, 2, 0], ?_⟩)
          refine GD.step (i := 12) (by kernel_rfl) rfl (ot_val (rv_assign rfl) rfl ⟨.inl rfl, ?_⟩)
          refine GD.done (by kernel_rfl) ?_
          refine GX.then ?_
          refine GC.ret ?_
          refine GX.blk_ret ?_
          refine GX.then_ret ?_
          refine GX.then_ret ?_
          have hnx2 : dpl a = nextD (dpl a) (opl o) := by unfold nextD; rw [hac]; rfl
          refine GX.ret3 rfl (RR.cellL ag_26 rfl (by exact Hd.cellsAll (k := 7) rfl) (by exact sz_26) (by (first | exact hql | rfl))) (RR.cellL ag_26 rfl (by exact Hd.cellsAll (k := 6) rfl) (by exact sz_26) (by (first | exact hql | rfl))) (RR.tmp rfl) ?_
          exact fun w9 h => ⟨((a, b), []), rfl, by
              have h := h.sel [] rfl rfl
              have h := (h.take 0).frzN0
              exact h, ⟨hnx2, hab ▸ hnx2, Sbs.of _ (fun f hf => List.mem_cons_of_mem _ hf), hoa, hob⟩⟩
        · skip
          refine GC.seq ?_
          refine GC.reg ?_
          refine GL.val (rv_eqI rfl rfl) rfl ?_
          refine GL.val (rv_assign rfl) rfl ?_
          refine GL.nil ?_
          refine GX.then ?_
          refine GC.condP rfl (fun c83 => ?_) (fun c83 => ?_)
          · have hac := actN (d := dpl a) (o := opl o) c25 c41 (by rw [show (opl o).1 = 3 from c83]; decide)
            refine GC.seq ?_
            refine GC.reg ?_
            refine GL.val (rv_loadA ag_26 rfl (Hd.cells (k := 6) rfl (us := dcell a) rfl) (by exact sz_26)) rfl ?_
            refine GL.val (rv_field fo_33_2 rfl rfl) rfl ?_
            refine GL.val (rv_load ag_9 rfl (Hd.cell (k := 4) rfl (ozc_at ho.1 0))) rfl ?_
            refine GL.val (rv_field fo_33_3 rfl rfl) rfl ?_
            refine GL.val (rv_load ag_24 rfl (Hd.cell (k := 4) rfl (ozc_at ho.1 1))) rfl ?_
            refine GL.val (rv_field fo_33_4 rfl rfl) rfl ?_
            refine GL.val (rv_load ag_24 rfl (Hd.cell (k := 4) rfl (ozc_at ho.1 2))) rfl ?_
            refine GL.step (ot_call hb_32 rfl (callOk fun w hh => hist_c a o.2.2.1 o.2.2.2.1 o.2.2.2.2 w (ha.lift hh) hoa ho.2) rfl fun g93 h93 => ?_)
            refine GL.val (rv_move rfl) rfl ?_
            refine GL.val (rv_extract rfl rfl) rfl ?_
            refine GL.val (rv_extract rfl rfl) rfl ?_
            refine GL.val (rv_assign rfl) rfl ?_
            refine GL.val (rv_assign rfl) rfl ?_
            refine GL.nil ?_
            refine GX.then ?_
            refine GC.seq ?_
            refine GC.reg ?_
            refine GL.val (rv_loadA ag_26 rfl (Hd.cells (k := 6) rfl (us := dcell b) rfl) (by exact sz_26)) rfl ?_
            refine GL.val (rv_field fo_33_2 rfl rfl) rfl ?_
            refine GL.val (rv_load ag_9 rfl (Hd.cell (k := 5) rfl (ozc_at ho.1 0))) rfl ?_
            refine GL.val (rv_field fo_33_3 rfl rfl) rfl ?_
            refine GL.val (rv_load ag_24 rfl (Hd.cell (k := 5) rfl (ozc_at ho.1 1))) rfl ?_
            refine GL.val (rv_field fo_33_4 rfl rfl) rfl ?_
            refine GL.val (rv_load ag_24 rfl (Hd.cell (k := 5) rfl (ozc_at ho.1 2))) rfl ?_
            refine GL.step (ot_call hb_33 rfl (callOk fun w hh => rhist_c b o.2.2.1 o.2.2.2.1 o.2.2.2.2 w (hb.lift hh) hob ho.2) rfl fun g104 h104 => ?_)
            rw [← hab]
            refine GL.val (rv_move rfl) rfl ?_
            refine GL.val (rv_extract rfl rfl) rfl ?_
            refine GL.val (rv_extract rfl rfl) rfl ?_
            refine GL.val (rv_assign rfl) rfl ?_
            refine GL.val (rv_assign rfl) rfl ?_
            refine GL.nil ?_
            refine GX.then ?_
            refine GC.seq ?_
            refine GC.draw 12 [8, 7] mo_ ?_
            refine GD.pure1 (i := 2) rfl (fun _ _ => rv_move rfl) ?_
            refine GD.pure1 (i := 3) rfl (fun _ _ => rv_move rfl) ?_
            refine GD.pure1 (i := 4) rfl (fun _ _ => rv_to (v' := .bool true) (rv_eqI rfl rfl) (by simp)) ?_
            refine GD.pure1 (i := 5) rfl (fun _ _ => rv_move rfl) ?_
            refine GD.pureG1 (i := 6) rfl rfl (fun _ _ => rv_move rfl) ?_
            refine GD.pureG1 (i := 7) rfl rfl (fun _ _ => rv_move rfl) ?_
            refine GD.read1 (i := 0) rfl (rv_loadA ag_26 rfl (Hd.cells (k := 0) rfl (us := dcell a) rfl) (by exact sz_26)) ?_
            refine GD.read1 (i := 1) rfl (rv_loadA ag_26 rfl (Hd.cells (k := 1) rfl (us := dcell b) rfl) (by exact sz_26)) ?_
            refine GD.stepG (i := 8) (by kernel_rfl) rfl rfl (ot_call hb_34 rfl (callOk fun w hh => samea_t g93.1 g104.1 w (h93.2.1.has hh (k := 1) rfl ha) (h104.2.1.has hh (k := 0) rfl hb) (by have := congrArg List.length h93.1; rw [List.length_map] at this; rw [this]; exact hist_le (by show (a.1.2.map epl).length ≤ _; rw [List.length_map]; exact hoa.2.2.1)) (by rw [h93.1, h104.1, hab])) rfl fun _ _ => ⟨.inr fun _ h => h.pk [8, 7], ?_⟩)
            refine GD.pure1 (i := 9) rfl (fun _ _ => (by exact rv_andT rfl rfl rfl)) ?_
            refine GD.step (i := 10) (by kernel_rfl) rfl (ot_store (k := 5) rfl rfl rfl rfl sz_26 rfl rfl (show repl _ 0 (dcell a) = dcell a from rfl) ⟨.inr fun _ h => h.pk [8, 7], ?_⟩)
            refine GD.step (i := 11) (by kernel_rfl) rfl (ot_store (k := 4) rfl rfl rfl rfl sz_26 rfl rfl (show repl _ 0 (dcell b) = dcell b from rfl) ⟨.inr fun _ h => h.pk [8, 7], ?_⟩)
            refine GD.step (i := 12) (by kernel_rfl) rfl (ot_val (rv_assign rfl) rfl ⟨.inl rfl, ?_⟩)
            refine GD.done (by kernel_rfl) ?_
            refine GX.then ?_
            refine GC.ret ?_
            refine GX.blk_ret ?_
            refine GX.then_ret ?_
            refine GX.then_ret ?_
            have hnx2 : dpl a = nextD (dpl a) (opl o) := by unfold nextD; rw [hac]; rfl
            refine GX.ret3 rfl (RR.cellL ag_26 rfl (by exact Hd.cellsAll (k := 5) rfl) (by exact sz_26) (by (first | exact hql | rfl))) (RR.cellL ag_26 rfl (by exact Hd.cellsAll (k := 4) rfl) (by exact sz_26) (by (first | exact hql | rfl))) (RR.tmp rfl) ?_
            exact fun w9 h => ⟨((a, b), []), rfl, by
                have h := h.sel [] rfl rfl
                have h := (h.take 0).frzN0
                exact h, ⟨hnx2, hab ▸ hnx2, Sbs.of _ (fun f hf => List.mem_cons_of_mem _ hf), hoa, hob⟩⟩
          · skip
            refine GC.seq ?_
            refine GC.reg ?_
            refine GL.val (rv_eqI rfl rfl) rfl ?_
            refine GL.val (rv_assign rfl) rfl ?_
            refine GL.nil ?_
            refine GX.then ?_
            refine GC.condP rfl (fun c117 => ?_) (fun c117 => ?_)
            · have hac := act4 (d := dpl a) (o := opl o) c117
              refine GC.seq ?_
              refine GC.reg ?_
              refine GL.val (rv_loadA ag_26 rfl (Hd.cells (k := 6) rfl (us := dcell a) rfl) (by exact sz_26)) rfl ?_
              refine GL.val (rv_field fo_33_4 rfl rfl) rfl ?_
              refine GL.val (rv_load ag_24 rfl (Hd.cell (k := 4) rfl (ozc_at ho.1 2))) rfl ?_
              refine GL.step (ot_call hb_19 rfl (callOk fun w hh => prune_c a o.2.2.2.2 w (ha.lift hh) hoa) rfl fun g123 h123 => ?_)
              refine GL.val (rv_move rfl) rfl ?_
              refine GL.val (rv_extract rfl rfl) rfl ?_
              refine GL.val (rv_extract rfl rfl) rfl ?_
              refine GL.step (ot_store (k := 1) rfl rfl rfl rfl sz_26 rfl rfl (show repl (dcell a) 0 (dcell g123.1) = dcell g123.1 from rfl) ?_)
              refine GL.val (rv_assign rfl) rfl ?_
              refine GL.nil ?_
              refine GX.then ?_
              refine GC.reg ?_
              refine GL.val (rv_loadA ag_26 rfl (Hd.cells (k := 6) rfl (us := dcell b) rfl) (by exact sz_26)) rfl ?_
              refine GL.val (rv_field fo_33_4 rfl rfl) rfl ?_
              refine GL.val (rv_load ag_24 rfl (Hd.cell (k := 5) rfl (ozc_at ho.1 2))) rfl ?_
              refine GL.step (ot_call hb_35 rfl (callOk fun w hh => rprune_c b o.2.2.2.2 w (hb.lift hh) hob) rfl fun g130 h130 => ?_)
              rw [← hab]
              refine GL.val (rv_move rfl) rfl ?_
              refine GL.val (rv_extract rfl rfl) rfl ?_
              refine GL.val (rv_extract rfl rfl) rfl ?_
              refine GL.step (ot_store (k := 3) rfl rfl rfl rfl sz_26 rfl rfl (show repl (dcell b) 0 (dcell g130.1) = dcell g130.1 from rfl) ?_)
              refine GL.val (rv_assign rfl) rfl ?_
              refine GL.nil ?_
              refine GX.blk ?_
              obtain ⟨hp123, hs123, ho123⟩ := h123
              obtain ⟨hp130, hs130, ho130⟩ := h130
              exact GX.cutq ((actP (dpl a) (opl o)).1, g123.1, g130.1, g130.2 ++ g123.2) ⟨rfl, by rw [hp123, hac] <;> rfl, by rw [hp130, ← hab, hac] <;> rfl, (fun f hf => (List.mem_append.1 hf).elim (fun hf => (hs123 f hf).imp id fun h => h.elim (fun h => .inl (List.mem_append_right _ h)) (fun h => by cases h)) (fun hf => (hs130 f hf).imp id fun h => h.elim (fun h => .inl (List.mem_append_left _ h)) (fun h => .inr (List.mem_cons_of_mem _ (List.mem_append_right _ h))))), ho123, ho130⟩ (by dsimp only; rw [hac]; repeat (first | exact Sub.nil | refine Sub.cons rfl ?_)) (fun w9 h => by
                  have h := h.sel [8, 7, 6, 4, 5, 3, 2, 1, 0] rfl rfl
                  have h := h.frzNAdd
                  have h := h.sel [7, 6, 5, 3, 4, 0, 2, 1] rfl rfl
                  exact h)
            · have hac := actN (d := dpl a) (o := opl o) c25 c41 c117
              refine GC.skip ?_
              refine GX.blk ?_
              exact GX.cutq (0, a, b, []) ⟨by rw [hac], by rw [hac], by rw [hac]; exact hab.symm, Sbs.of _ (fun f hf => List.mem_cons_of_mem _ hf), hoa, hob⟩ (by repeat (first | exact Sub.nil | refine Sub.cons rfl ?_)) (fun w9 h => by
                  have h := h.frzN0
                  have h := h.sel [7, 6, 5, 4, 3, 0, 2, 1] rfl rfl
                  exact h)
  dsimp only at hee hpx hpy hsxy hox hoy ⊢
  have hI : Has w (rfx o.2.1 :: (dfx a ++ dfx b)) := fun f hf => (List.mem_cons.1 hf).elim (fun e => e ▸ hQ _ (List.mem_singleton.2 rfl)) (fun hf => (List.mem_append.1 hf).elim (ha f) (hb f))
  refine GX.then ?_
  refine GC.seq ?_
  refine GC.seq ?_
  refine GC.reg ?_
  refine GL.val (rv_move rfl) rfl ?_
  refine GL.val (rv_move rfl) rfl ?_
  refine GL.val (rv_to (v' := .bool false) (rv_neI rfl rfl) (by simp)) rfl ?_
  refine GL.val (rv_move rfl) rfl ?_
  refine GL.valT rfl (rv_loadA ag_26 rfl (Hd.cells (k := 0) rfl (us := dcell x) rfl) (by exact sz_26)) rfl ?_
  refine GL.valT rfl (rv_loadA ag_26 rfl (Hd.cells (k := 1) rfl (us := dcell y) rfl) (by exact sz_26)) rfl ?_
  refine GL.stepG rfl (ot_call hb_16 rfl (callOk fun w hh => same_t x y w (fun f hf => hsxy.has hh (k := 2) rfl hI f (List.mem_append_left _ hf)) (fun f hf => hsxy.has hh (k := 2) rfl hI f (List.mem_append_right _ hf)) hox hoy (hpx.trans hpy.symm)) rfl fun _ _ => ?_)
  refine GL.valT rfl (rv_not rfl) rfl ?_
  refine GL.val ((by exact rv_orF rfl rfl rfl)) rfl ?_
  refine GL.nil ?_
  refine GX.then ?_
  refine GC.cond rfl (fun c141 => ?_) (fun c141 => ?_)
  · cases c141
  · skip
    refine GC.skip ?_
    refine GX.then ?_
    refine GC.seq ?_
    refine GC.seq ?_
    refine GC.reg ?_
    refine GL.val (rv_move rfl) rfl ?_
    refine GL.val (rv_neI rfl rfl) rfl ?_
    refine GL.nil ?_
    refine GX.then ?_
    refine GC.condP rfl (fun c145 => ?_) (fun c145 => ?_)
    · have hnx : nextD (dpl a) (opl o) = dpl a := by unfold nextD; rw [if_pos (hee ▸ c145)]
      refine GC.seq ?_
      refine GC.draw 4 [7, 6] mo_ ?_
      refine GD.read1 (i := 0) rfl (rv_loadA ag_26 rfl (Hd.cells (k := 0) rfl (us := dcell a) rfl) (by exact sz_26)) ?_
      refine GD.read1 (i := 1) rfl (rv_loadA ag_26 rfl (Hd.cells (k := 1) rfl (us := dcell b) rfl) (by exact sz_26)) ?_
      refine GD.step (i := 2) (by kernel_rfl) rfl (ot_store (k := 4) rfl rfl rfl rfl sz_26 rfl rfl (show repl _ 0 (dcell a) = dcell a from rfl) ⟨.inr fun _ h => h.pk [7, 6], ?_⟩)
      refine GD.step (i := 3) (by kernel_rfl) rfl (ot_store (k := 3) rfl rfl rfl rfl sz_26 rfl rfl (show repl _ 0 (dcell b) = dcell b from rfl) ⟨.inr fun _ h => h.pk [7, 6], ?_⟩)
      refine GD.step (i := 4) (by kernel_rfl) rfl (ot_val (rv_assign rfl) rfl ⟨.inl rfl, ?_⟩)
      refine GD.done (by kernel_rfl) ?_
      refine GX.then ?_
      refine GC.ret ?_
      refine GX.then_ret ?_
      refine GX.ret3 rfl (RR.cellL ag_26 rfl (by exact Hd.cellsAll (k := 4) rfl) (by exact sz_26) (by (first | exact hql | rfl))) (RR.cellL ag_26 rfl (by exact Hd.cellsAll (k := 3) rfl) (by exact sz_26) (by (first | exact hql | rfl))) (RR.tmp rfl) ?_
      exact fun w9 h => ⟨((a, b), []), rfl, by
          have h := h.sel [] rfl rfl
          have h := (h.take 0).frzN0
          exact h, ⟨hnx.symm, hab ▸ hnx.symm, Sbs.of _ (fun f hf => List.mem_cons_of_mem _ hf), hoa, hob⟩⟩
    · have hnx : nextD (dpl a) (opl o) = (actP (dpl a) (opl o)).2 := by unfold nextD; rw [if_neg (by rw [← hee]; exact c145)]
      refine GC.skip ?_
      refine GX.then ?_
      refine GC.seq ?_
      refine GC.draw 4 [0, 1] mo_ ?_
      refine GD.read1 (i := 0) rfl (rv_loadA ag_26 rfl (Hd.cells (k := 0) rfl (us := dcell x) rfl) (by exact sz_26)) ?_
      refine GD.read1 (i := 1) rfl (rv_loadA ag_26 rfl (Hd.cells (k := 1) rfl (us := dcell y) rfl) (by exact sz_26)) ?_
      refine GD.step (i := 2) (by kernel_rfl) rfl (ot_store (k := 4) rfl rfl rfl rfl sz_26 rfl rfl (show repl _ 0 (dcell x) = dcell x from rfl) ⟨.inr fun _ h => h.pk [0, 1], ?_⟩)
      refine GD.step (i := 3) (by kernel_rfl) rfl (ot_store (k := 3) rfl rfl rfl rfl sz_26 rfl rfl (show repl _ 0 (dcell y) = dcell y from rfl) ⟨.inr fun _ h => h.pk [0, 1], ?_⟩)
      refine GD.step (i := 4) (by kernel_rfl) rfl (ot_val (rv_assign rfl) rfl ⟨.inl rfl, ?_⟩)
      refine GD.done (by kernel_rfl) ?_
      refine GX.then ?_
      refine GC.ret ?_
      refine GX.ret3 rfl (RR.cellL ag_26 rfl (by exact Hd.cellsAll (k := 4) rfl) (by exact sz_26) (by (first | exact hql | rfl))) (RR.cellL ag_26 rfl (by exact Hd.cellsAll (k := 3) rfl) (by exact sz_26) (by (first | exact hql | rfl))) (RR.tmp rfl) ?_
      exact fun w9 h => ⟨((x, y), G), rfl, by
          have h := h.sel [2] rfl rfl
          exact h, ⟨hpx.trans hnx.symm, hpy.trans hnx.symm, hsxy, hox, hoy⟩⟩
end Go.Proofs.Ytkifeeiafachpaa
