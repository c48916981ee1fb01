import Derived.Test.YtkifeeiafachpaaKa
set_option linter.unusedVariables false
set_option linter.unusedSimpArgs false
namespace Go.Proofs.Ytkifeeiafachpaa
open Go Go.RowKit Go.Bz

theorem foldl_s {os : List OpZ} {i : Nat} {d0 : Dz} (h : i < os.length) : ((os.map opl).take (i + 1)).foldl nextD d0 = nextD (((os.map opl).take i).foldl nextD d0) (opl os[i]) := by
  rw [List.take_succ_eq_append_getElem (by rw [List.length_map]; exact h), List.foldl_append, List.getElem_map]; rfl
theorem sb_step1 {u v x : DirZ} {o : OpZ} {G F I : List Fact} (h : Sbs (dfx u ++ dfx v) G (rfx o.2.1 :: (dfx x ++ dfx x))) (hs : Sbs (dfx x) F I) (ho : rfx o.2.1 ∈ I) : Sbs (dfx u) (G ++ F) I :=
  (h.sub (fun f hf => List.mem_append_left _ hf)).trans (Sbs.cons (.inr (.inr ho)) (hs.app hs))
theorem Sbs.wid {R F G I : List Fact} (h : Sbs R F I) (k : ∀ f ∈ F, f ∈ G) : Sbs R G I := fun f hf => (h f hf).imp id fun h => h.imp (k f) id
theorem ext_run {a : Dz} (ha : ckP a) : ∀ (os : List OpP) (b : Dz), ckP b → Ext a b → ckP (os.foldl nextD b) ∧ Ext a (os.foldl nextD b)
  | [], b, h, e => ⟨h, e⟩
  | o :: os, b, h, e => ext_run ha os _ (ck_next h) (e.next h)
theorem slr1 {w : World} {A : Option Addr} {es : List EpZ} {b o : Nat} (h : SlR w A (fcat ecell es)) (hA : A = some ⟨b, o, none⟩) (k : Nat) (hk : k < es.length) : w.cell? ⟨b, o + k * 1, none⟩ = some (.slice es[k].1.1 es[k].2.length es[k].1.2) := by
  subst hA
  exact ((slr_cells h (fcat_ne ec_len (by decide) hk)).fcat ec_len k hk) 0 _ rfl
theorem pre_pl {d e : DirZ} (h : (dpl d).1 <+: (dpl e).1) : d.1.2.length ≤ e.1.2.length ∧ ∀ k (h1 : k < d.1.2.length) (h2 : k < e.1.2.length), d.1.2[k].2.map bpl = e.1.2[k].2.map bpl := by
  have h : d.1.2.map epl <+: e.1.2.map epl := h
  have hl := h.length_le
  rw [List.length_map, List.length_map] at hl
  refine ⟨hl, fun k h1 h2 => ?_⟩
  obtain ⟨t, ht⟩ := h
  have := congrArg (fun l : List (List Bd) => l[k]?) ht
  rw [List.getElem?_append_left (by rw [List.length_map]; exact h1), List.getElem?_map, List.getElem?_map, List.getElem?_eq_getElem h1, List.getElem?_eq_getElem h2] at this
  simpa [epl] using this
set_option maxRecDepth 100000 in
set_option maxHeartbeats 1000000 in
theorem stays_law (A : Option Addr) (c : Nat) (os : List OpZ) (A2 : Option Addr) (c2 : Nat) (ms : List OpZ) (w : World) (hR : SlR w A (fcat ozc os)) (hof : Has w (os.map ofx)) (ho1 : ∀ o ∈ os, oOk1 o) (hR2 : SlR w A2 (fcat ozc ms)) (hmf : Has w (ms.map ofx)) (hm1 : ∀ o ∈ ms, oOk1 o) : Calls Try.prog 5 [.slice A os.length c, .slice A2 ms.length c2].toArray w fun e w' => ∃ _g : Unit, e = .returned (.bool true) ∧ St noB w w' [] ∧ True := by
  refine GC.calls Try.func5 rfl rfl (St.begin _) ?_
  have ho0 : ∀ o ∈ os, oOk0 o := fun o ho => (ho1 o ho).2.2.1
  have hm0 : ∀ o ∈ ms, oOk0 o := fun o ho => (hm1 o ho).2.2.1
  have hII : Has w (os.map ofx ++ ms.map ofx) := fun f hf => (List.mem_append.1 hf).elim (hof f) (hmf f)
  refine GC.seq ?_
  refine GC.reg ?_
  refine GL.val (rv_assign rfl) rfl ?_
  refine GL.nil ?_
  refine GX.then ?_
  refine GC.seq ?_
  refine GC.seq ?_
  refine GC.cutq (γ := Unit) [1, 0] [] (fun g Lk => (17, .bool (decide (¬ FewP os ∨ ¬ FewP ms))) :: Lk) (fun g Fk => Fk) (fun g => True) rfl rfl ?_ (fun _ _ => ?_)
  · rcases (or_first2 : (¬ FewP os) ∨ (¬ (¬ FewP os) ∧ ¬ FewP ms) ∨ (¬ (¬ FewP os) ∧ ¬ (¬ FewP ms))) with h | ⟨h, k⟩ | ⟨h, k⟩
    · have hb1 : decide (FewP os) = false := decide_eq_false h
      rw [show decide (¬ FewP os ∨ ¬ FewP ms) = true from decide_eq_true (.inl h)]
      refine GC.reg ?_
      refine GL.val (rv_move rfl) rfl ?_
      refine GL.step (ot_call hb_10 rfl (callOk fun w hh => few_b _ A _ c os w (hh.rd0n hR) ho0 rfl hb1) rfl fun _ _ => ?_)
      refine GL.val (rv_not rfl) rfl ?_
      refine GL.val (rv_move rfl) rfl ?_
      refine GL.skipG rfl rfl ?_
      refine GL.skipG rfl rfl ?_
      refine GL.skipG rfl rfl ?_
      refine GL.val ((by exact rv_orT rfl rfl rfl)) rfl ?_
      refine GL.nil ?_
      exact GX.cutq () trivial (by repeat (first | exact Sub.nil | refine Sub.cons rfl ?_)) (fun w9 h => by
          exact h)
    · have hb1 : decide (FewP os) = true := decide_eq_true (Decidable.byContradiction h)
      have hb2 : decide (FewP ms) = false := decide_eq_false k
      rw [show decide (¬ FewP os ∨ ¬ FewP ms) = true from decide_eq_true (.inr k)]
      refine GC.reg ?_
      refine GL.val (rv_move rfl) rfl ?_
      refine GL.step (ot_call hb_10 rfl (callOk fun w hh => few_b _ A _ c os w (hh.rd0n hR) ho0 rfl hb1) rfl fun _ _ => ?_)
      refine GL.val (rv_not rfl) rfl ?_
      refine GL.val (rv_move rfl) rfl ?_
      refine GL.valT rfl (rv_move rfl) rfl ?_
      refine GL.stepG rfl (ot_call hb_10 rfl (callOk fun w hh => few_b _ A2 _ c2 ms w (hh.rd0n hR2) hm0 rfl hb2) rfl fun _ _ => ?_)
      refine GL.valT rfl (rv_not rfl) rfl ?_
      refine GL.val ((by exact rv_orF rfl rfl rfl)) rfl ?_
      refine GL.nil ?_
      exact GX.cutq () trivial (by repeat (first | exact Sub.nil | refine Sub.cons rfl ?_)) (fun w9 h => by
          exact h)
    · have hb1 : decide (FewP os) = true := decide_eq_true (Decidable.byContradiction h)
      have hb2 : decide (FewP ms) = true := decide_eq_true (Decidable.byContradiction k)
      rw [show decide (¬ FewP os ∨ ¬ FewP ms) = false from decide_eq_false (fun q => q.elim h k)]
      refine GC.reg ?_
      refine GL.val (rv_move rfl) rfl ?_
      refine GL.step (ot_call hb_10 rfl (callOk fun w hh => few_b _ A _ c os w (hh.rd0n hR) ho0 rfl hb1) rfl fun _ _ => ?_)
      refine GL.val (rv_not rfl) rfl ?_
      refine GL.val (rv_move rfl) rfl ?_
      refine GL.valT rfl (rv_move rfl) rfl ?_
      refine GL.stepG rfl (ot_call hb_10 rfl (callOk fun w hh => few_b _ A2 _ c2 ms w (hh.rd0n hR2) hm0 rfl hb2) rfl fun _ _ => ?_)
      refine GL.valT rfl (rv_not rfl) rfl ?_
      refine GL.val ((by exact rv_orF rfl rfl rfl)) rfl ?_
      refine GL.nil ?_
      exact GX.cutq () trivial (by repeat (first | exact Sub.nil | refine Sub.cons rfl ?_)) (fun w9 h => by
          exact h)
  refine GX.then ?_
  refine GC.condP rfl (fun c17 => ?_) (fun c17 => ?_)
  · skip
    refine GC.seq ?_
    refine GC.reg ?_
    refine GL.step (ot_call hb_11 rfl (callOk fun w hh => mworks_c w) rfl fun _ _ => ?_)
    refine GL.val (rv_assign rfl) rfl ?_
    refine GL.nil ?_
    refine GX.then ?_
    refine GC.ret ?_
    refine GX.then_ret ?_
    refine GX.ret1 rfl (RR.tmp rfl) ?_
    exact fun w9 h => ⟨(), rfl, by
        exact h, trivial⟩
  · have hfo : FewP os := Decidable.byContradiction fun h => c17 (.inl h)
    have hfm : FewP ms := Decidable.byContradiction fun h => c17 (.inr h)
    refine GC.skip ?_
    refine GX.then ?_
    refine GC.seq ?_
    refine GC.reg ?_
    refine GL.step (ot_call hb_15 rfl (callOk fun w hh => mnew_c w) rfl fun _ _ => ?_)
    refine GL.step (ot_alloc (zs := [.slice none 0 0, .slice none 0 0, .int .u64 0]) zb_26 rfl rfl fun b5 => ?_)
    refine GL.step (ot_store (k := 0) rfl rfl rfl rfl sz_26 rfl rfl (show repl _ 0 (dcell dzN) = dcell dzN from rfl) ?_)
    refine GL.nil ?_
    refine GX.then ?_
    refine GC.seq ?_
    refine GC.seq ?_
    refine GC.reg ?_
    refine GL.val (rv_assign rfl) rfl ?_
    refine GL.nil ?_
    refine GX.then ?_
    refine GC.block ?_
    refine GC.loopK (γ := Nat × DirZ × List Fact) [5, 1, 0] [] (fun g Lk => (6, .int .i64 (g.1 : Int)) :: Lk) (fun g Fk => .cl b5 (dcell g.2.1) 26 :: frzN g.2.2 :: Fk) (fun g => (g.1 ≤ os.length) ∧ (dpl g.2.1 = (((os).map opl).take g.1).foldl nextD dNew) ∧ (Sbs (dfx g.2.1) g.2.2 (os.map ofx ++ ms.map ofx)) ∧ (dOk g.2.1)) (fun g => os.length - g.1) (0, dzN, []) rfl rfl ⟨Nat.zero_le _, rfl, sb_new, dok_new 1⟩ (by repeat (first | exact Sub.nil | refine Sub.cons rfl ?_)) (fun w9 h => by
        have h := h.frzN0
        have h := h.sel [0, 1] rfl rfl
        exact h) (fun ⟨i, d, F⟩ ⟨hi, hx, hs, hox⟩ => ?_)
    dsimp only at hi hx hs hox ⊢
    refine GC.seq ?_
    refine GC.seq ?_
    refine GC.reg ?_
    refine GL.val (rv_move rfl) rfl ?_
    refine GL.val (rv_move rfl) rfl ?_
    refine GL.val (rv_lenSl Try.underlying36 rfl) rfl ?_
    refine GL.val (rv_lss rfl rfl) rfl ?_
    refine GL.nil ?_
    refine GX.then ?_
    refine GC.condP rfl (fun c23 => ?_) (fun c23 => ?_)
    · have hlt : i < os.length := by omega
      have h60 := hfo.1
      obtain ⟨b, o, hAo, hC⟩ := slr_some hR (fcat_ne (oz_len ho0) (by decide) hlt)
      have hom : os[i] ∈ os := List.getElem_mem _
      have hoi := oOk_of ho1 hfo hom
      have hol : (ozc os[i]).length = 39 := oz_len ho0 _ hom
      refine GC.skip ?_
      refine GX.then ?_
      refine GC.seq ?_
      refine GC.block ?_
      refine GC.draw 11 [0] mo_ ?_
      refine GD.pure1 (i := 2) rfl (fun _ _ => rv_move rfl) ?_
      refine GD.pure1 (i := 3) rfl (fun _ _ => rv_move rfl) ?_
      refine GD.pure1 (i := 4) rfl (fun _ _ => rv_elemJ (q := o + i * 39) i es_36 (by rw [hAo]; rfl) rfl rfl hlt rfl) ?_
      refine GD.read1 (i := 0) rfl (rv_loadA ag_26 rfl (Hd.cells (k := 0) rfl (us := dcell d) rfl) (by exact sz_26)) ?_
      refine GD.read1 (i := 1) rfl (rv_loadA ag_26 rfl (Hd.cells (k := 0) rfl (us := dcell d) rfl) (by exact sz_26)) ?_
      refine GD.step (i := 5) (by kernel_rfl) rfl (ot_val (rv_loadAL ag_33 rfl (Hd.cells0 (hC.fcat (oz_len ho0) i hlt) (fun h => h)) (by exact sz_33) hol) rfl ⟨.inr fun _ h => h.pk [0], ?_⟩)
      refine GD.step (i := 6) (by kernel_rfl) rfl (ot_call hb_14 rfl (callOk fun w hh => step_c d d os[i] w (hs.has hh (k := 1) rfl hII) (hs.has hh (k := 1) rfl hII) hox hox rfl ((has_of hof hom).lift hh) hoi) rfl fun g33 h33 => ⟨.inr fun _ h => h.pk [1], ?_⟩)
      refine GD.pure1 (i := 7) rfl (fun _ _ => rv_move rfl) ?_
      refine GD.pure1 (i := 8) rfl (fun _ _ => rv_extract rfl rfl) ?_
      refine GD.pure1 (i := 9) rfl (fun _ _ => rv_extract rfl rfl) ?_
      refine GD.pure1 (i := 10) rfl (fun _ _ => rv_extract rfl rfl) ?_
      refine GD.step (i := 11) (by kernel_rfl) rfl (ot_store (k := 1) rfl rfl rfl rfl sz_26 rfl rfl (show repl (dcell d) 0 (dcell g33.1.1) = dcell g33.1.1 from rfl) ⟨.inl rfl, ?_⟩)
      refine GD.done (by kernel_rfl) ?_
      refine GX.blk ?_
      refine GX.then ?_
      refine GC.reg ?_
      refine GL.val (rv_move rfl) rfl ?_
      refine GL.val (rv_add rfl rfl (by omega) (by omega)) rfl ?_
      refine GL.val (rv_assign rfl) rfl ?_
      refine GL.nil ?_
      obtain ⟨hp1, hp2, hsb, ho1x, ho1y⟩ := h33
      exact GX.round (i + 1, g33.1.1, g33.2 ++ F) (by dsimp only; omega) ⟨by dsimp only; omega, by rw [foldl_s hlt, ← hx]; exact hp1, sb_step1 hsb hs (List.mem_append_left _ (List.mem_map_of_mem hom)), ho1x⟩ (by repeat (first | exact Sub.nil | refine Sub.cons rfl ?_)) (fun w9 h => by
          have h := h.sel [1, 2, 0] rfl rfl
          have h := h.frzNAdd
          have h := h.sel [0, 1] rfl rfl
          exact h)
    · obtain rfl : i = os.length := by omega
      rw [List.take_of_length_le (by rw [List.length_map]; omega)] at hx
      have hxd : dpl d = runD (os.map opl) := hx
      have hckd : ckP (dpl d) := hxd ▸ ck_run _
      have hsd := hs
      have hod := hox
      clear hs hox hx
      refine GC.exit ?_
      refine GX.then_exit ?_
      refine GX.then_exit ?_
      refine GX.blk_eq ?_
      refine GX.then ?_
      refine GC.seq ?_
      refine GC.reg ?_
      refine GL.val (rv_loadA ag_26 rfl (Hd.cells (k := 0) rfl (us := dcell d) rfl) (by exact sz_26)) rfl ?_
      refine GL.step (ot_alloc (zs := [.slice none 0 0, .slice none 0 0, .int .u64 0]) zb_26 rfl rfl fun b7 => ?_)
      refine GL.step (ot_store (k := 0) rfl rfl rfl rfl sz_26 rfl rfl (show repl _ 0 (dcell d) = dcell d from rfl) ?_)
      refine GL.nil ?_
      refine GX.then ?_
      refine GC.seq ?_
      refine GC.seq ?_
      refine GC.reg ?_
      refine GL.val (rv_assign rfl) rfl ?_
      refine GL.nil ?_
      refine GX.then ?_
      refine GC.block ?_
      refine GC.loopK (γ := Nat × DirZ × List Fact) [7, 5, 1] [1] (fun g Lk => (8, .int .i64 (g.1 : Int)) :: Lk) (fun g Fk => .cl b7 (dcell g.2.1) 26 :: frzN g.2.2 :: Fk) (fun g => (g.1 ≤ ms.length) ∧ (dpl g.2.1 = (((ms).map opl).take g.1).foldl nextD (dpl d)) ∧ (Sbs (dfx g.2.1) g.2.2 (os.map ofx ++ ms.map ofx)) ∧ (dOk g.2.1) ∧ (∀ f ∈ F, f ∈ g.2.2)) (fun g => ms.length - g.1) (0, d, F) rfl rfl ⟨Nat.zero_le _, rfl, hsd, hod, fun f h => h⟩ (by repeat (first | exact Sub.nil | refine Sub.cons rfl ?_)) (fun w9 h => by
          have h := h.sel [1, 2, 0] rfl rfl
          exact h) (fun ⟨i, e, G⟩ ⟨hi, hx, hs, hox, hsub⟩ => ?_)
      dsimp only at hi hx hs hox hsub ⊢
      refine GC.seq ?_
      refine GC.seq ?_
      refine GC.reg ?_
      refine GL.val (rv_move rfl) rfl ?_
      refine GL.val (rv_move rfl) rfl ?_
      refine GL.val (rv_lenSl Try.underlying36 rfl) rfl ?_
      refine GL.val (rv_lss rfl rfl) rfl ?_
      refine GL.nil ?_
      refine GX.then ?_
      refine GC.condP rfl (fun c41 => ?_) (fun c41 => ?_)
      · have hlt : i < ms.length := by omega
        have h60 := hfm.1
        obtain ⟨bm, om, hAm, hCm⟩ := slr_some hR2 (fcat_ne (oz_len hm0) (by decide) hlt)
        have hom : ms[i] ∈ ms := List.getElem_mem _
        have hoi := oOk_of hm1 hfm hom
        have hol : (ozc ms[i]).length = 39 := oz_len hm0 _ hom
        refine GC.skip ?_
        refine GX.then ?_
        refine GC.seq ?_
        refine GC.block ?_
        refine GC.draw 11 [0] mo_ ?_
        refine GD.pure1 (i := 2) rfl (fun _ _ => rv_move rfl) ?_
        refine GD.pure1 (i := 3) rfl (fun _ _ => rv_move rfl) ?_
        refine GD.pure1 (i := 4) rfl (fun _ _ => rv_elemJ (q := om + i * 39) i es_36 (by rw [hAm]; rfl) rfl rfl hlt rfl) ?_
        refine GD.read1 (i := 0) rfl (rv_loadA ag_26 rfl (Hd.cells (k := 0) rfl (us := dcell e) rfl) (by exact sz_26)) ?_
        refine GD.read1 (i := 1) rfl (rv_loadA ag_26 rfl (Hd.cells (k := 0) rfl (us := dcell e) rfl) (by exact sz_26)) ?_
        refine GD.step (i := 5) (by kernel_rfl) rfl (ot_val (rv_loadAL ag_33 rfl (Hd.cells0 (hCm.fcat (oz_len hm0) i hlt) (fun h => h)) (by exact sz_33) hol) rfl ⟨.inr fun _ h => h.pk [0], ?_⟩)
        refine GD.step (i := 6) (by kernel_rfl) rfl (ot_call hb_14 rfl (callOk fun w hh => step_c e e ms[i] w (hs.has hh (k := 1) rfl hII) (hs.has hh (k := 1) rfl hII) hox hox rfl ((has_of hmf hom).lift hh) hoi) rfl fun g51 h51 => ⟨.inr fun _ h => h.pk [1], ?_⟩)
        refine GD.pure1 (i := 7) rfl (fun _ _ => rv_move rfl) ?_
        refine GD.pure1 (i := 8) rfl (fun _ _ => rv_extract rfl rfl) ?_
        refine GD.pure1 (i := 9) rfl (fun _ _ => rv_extract rfl rfl) ?_
        refine GD.pure1 (i := 10) rfl (fun _ _ => rv_extract rfl rfl) ?_
        refine GD.step (i := 11) (by kernel_rfl) rfl (ot_store (k := 1) rfl rfl rfl rfl sz_26 rfl rfl (show repl (dcell e) 0 (dcell g51.1.1) = dcell g51.1.1 from rfl) ⟨.inl rfl, ?_⟩)
        refine GD.done (by kernel_rfl) ?_
        refine GX.blk ?_
        refine GX.then ?_
        refine GC.reg ?_
        refine GL.val (rv_move rfl) rfl ?_
        refine GL.val (rv_add rfl rfl (by omega) (by omega)) rfl ?_
        refine GL.val (rv_assign rfl) rfl ?_
        refine GL.nil ?_
        obtain ⟨hp1, hp2, hsb, ho1x, ho1y⟩ := h51
        exact GX.round (i + 1, g51.1.1, g51.2 ++ G) (by dsimp only; omega) ⟨by dsimp only; omega, by rw [foldl_s hlt, ← hx]; exact hp1, sb_step1 hsb hs (List.mem_append_right _ (List.mem_map_of_mem hom)), ho1x, fun f h => List.mem_append_right _ (hsub f h)⟩ (by repeat (first | exact Sub.nil | refine Sub.cons rfl ?_)) (fun w9 h => by
            have h := h.sel [3, 1, 2, 0] rfl rfl
            have h := h.frzNAdd
            have h := h.sel [2, 0, 1] rfl rfl
            exact h)
      · obtain rfl : i = ms.length := by omega
        rw [List.take_of_length_le (by rw [List.length_map]; omega)] at hx
        replace hsd := hsd.wid hsub
        obtain ⟨_, hpf, hfr⟩ := ext_run hckd (ms.map opl) (dpl d) hckd (Ext.refl _)
        rw [← hx] at hpf hfr
        obtain ⟨hl1, hpre⟩ := pre_pl hpf
        have hfr : d.2.2.toNat ≤ e.2.2.toNat := hfr
        have hd1 := hod.2.2.1
        refine GC.exit ?_
        refine GX.then_exit ?_
        refine GX.then_exit ?_
        refine GX.blk_eq ?_
        refine GX.then ?_
        refine GC.seq ?_
        refine GC.seq ?_
        refine GC.reg ?_
        refine GL.val (rv_field fo_26_0 rfl rfl) rfl ?_
        refine GL.val (rv_load ag_22 rfl (Hd.cell (k := 0) rfl rfl)) rfl ?_
        refine GL.val (rv_lenSl Try.underlying22 rfl) rfl ?_
        refine GL.val (rv_field fo_26_0 rfl rfl) rfl ?_
        refine GL.val (rv_load ag_22 rfl (Hd.cell (k := 2) rfl rfl)) rfl ?_
        refine GL.val (rv_lenSl Try.underlying22 rfl) rfl ?_
        refine GL.val (rv_to (v' := .bool false) (rv_lss rfl rfl) (by exact congrArg Value.bool (decide_eq_false (by omega)))) rfl ?_
        refine GL.val (rv_move rfl) rfl ?_
        refine GL.valT rfl (rv_field fo_26_2 rfl rfl) rfl ?_
        refine GL.valT rfl (rv_load ag_24 rfl (Hd.cell (k := 0) rfl rfl)) rfl ?_
        refine GL.valT rfl (rv_field fo_26_2 rfl rfl) rfl ?_
        refine GL.valT rfl (rv_load ag_24 rfl (Hd.cell (k := 2) rfl rfl)) rfl ?_
        refine GL.valT rfl (rv_to (v' := .bool false) (rv_lss rfl rfl) (by exact congrArg Value.bool (decide_eq_false (by omega)))) rfl ?_
        refine GL.val ((by exact rv_orF rfl rfl rfl)) rfl ?_
        refine GL.nil ?_
        refine GX.then ?_
        refine GC.cond rfl (fun c68 => ?_) (fun c68 => ?_)
        · cases c68
        · skip
          refine GC.skip ?_
          refine GX.then ?_
          refine GC.seq ?_
          refine GC.seq ?_
          refine GC.reg ?_
          refine GL.val (rv_assign rfl) rfl ?_
          refine GL.nil ?_
          refine GX.then ?_
          refine GC.block ?_
          refine GC.loopK (γ := Nat) [7, 5] [2, 1, 0] (fun g Lk => (9, .int .i64 (g : Int)) :: Lk) (fun g Fk => Fk) (fun g => g ≤ d.1.2.length) (fun g => d.1.2.length - g) (0) rfl rfl (Nat.zero_le _) (by repeat (first | exact Sub.nil | refine Sub.cons rfl ?_)) (fun w9 h => by
              exact h) (fun k hk => ?_)
          skip
          refine GC.seq ?_
          refine GC.seq ?_
          refine GC.reg ?_
          refine GL.val (rv_move rfl) rfl ?_
          refine GL.val (rv_field fo_26_0 rfl rfl) rfl ?_
          refine GL.val (rv_load ag_22 rfl (Hd.cell (k := 2) rfl rfl)) rfl ?_
          refine GL.val (rv_lenSl Try.underlying22 rfl) rfl ?_
          refine GL.val (rv_lss rfl rfl) rfl ?_
          refine GL.nil ?_
          refine GX.then ?_
          refine GC.condP rfl (fun c73 => ?_) (fun c73 => ?_)
          · have hlt : k < d.1.2.length := by omega
            have hlt2 : k < e.1.2.length := by omega
            refine GC.fact (p := ∃ b o, d.1.1.1 = some ⟨b, o, none⟩) (fun w9 h9 => by obtain ⟨b, o, h, _⟩ := slr_some ((hsd.has h9 (k := 1) rfl hII) _ (dfx_e d)) (fcat_ne ec_len (by decide) hlt); exact ⟨b, o, h⟩) fun hq1 => ?_
            obtain ⟨ba, oa, hAa⟩ := hq1
            refine GC.fact (p := ∃ b o, e.1.1.1 = some ⟨b, o, none⟩) (fun w9 h9 => by obtain ⟨b, o, h, _⟩ := slr_some ((hs.has h9 (k := 1) rfl hII) _ (dfx_e e)) (fcat_ne ec_len (by decide) hlt2); exact ⟨b, o, h⟩) fun hq2 => ?_
            obtain ⟨bb, ob, hAb⟩ := hq2
            refine GC.skip ?_
            refine GX.then ?_
            refine GC.seq ?_
            refine GC.block ?_
            refine GC.seq ?_
            refine GC.draw 12 [2, 0, 1] mo_ ?_
            refine GD.pure1 (i := 0) rfl (fun _ _ => rv_field fo_26_0 rfl rfl) ?_
            refine GD.pure1 (i := 2) rfl (fun _ _ => rv_move rfl) ?_
            refine GD.pure1 (i := 5) rfl (fun _ _ => rv_field fo_26_0 rfl rfl) ?_
            refine GD.pure1 (i := 7) rfl (fun _ _ => rv_move rfl) ?_
            refine GD.read1 (i := 1) rfl (rv_load ag_22 rfl (Hd.cell (k := 0) rfl rfl)) ?_
            refine GD.pure1 (i := 3) rfl (fun _ _ => rv_elemJ (q := oa + k * 1) k es_22 (by rw [hAa]; rfl) rfl rfl hlt rfl) ?_
            refine GD.read1 (i := 4) rfl (rv_load ag_46 rfl (fun w9 h9 => slr1 (hsd.has h9 (k := 2) rfl hII _ (dfx_e d)) hAa k hlt)) ?_
            refine GD.step (i := 6) (by kernel_rfl) rfl (ot_val (rv_load ag_22 rfl (Hd.cell (k := 0) rfl rfl)) rfl ⟨.inr fun _ h => h.pk [2, 0, 1], ?_⟩)
            refine GD.pure1 (i := 8) rfl (fun _ _ => rv_elemJ (q := ob + k * 1) k es_22 (by rw [hAb]; rfl) rfl rfl hlt2 rfl) ?_
            refine GD.step (i := 9) (by kernel_rfl) rfl (ot_val (rv_load ag_46 rfl (fun w9 h9 => slr1 (hs.has h9 (k := 1) rfl hII _ (dfx_e e)) hAb k hlt2)) rfl ⟨.inr fun _ h => h.pk [2, 0, 1], ?_⟩)
            refine GD.step (i := 10) (by kernel_rfl) rfl (ot_call hb_17 rfl (callOk fun w hh => sames_c d.1.2[k] e.1.2[k] w (fun f hf => hsd.has hh (k := 1) rfl hII f (dfx_ep (List.getElem_mem hlt) f hf)) (fun f hf => hs.has hh (k := 1) rfl hII f (dfx_ep (List.getElem_mem hlt2) f hf)) (hod.1 _ (List.getElem_mem hlt)).2.1) rfl fun _ _ => ⟨.inr fun _ h => h.pk [2, 0, 1], ?_⟩)
            rw [show decide (d.1.2[k].2.map bpl = e.1.2[k].2.map bpl) = true from decide_eq_true (hpre k hlt hlt2)]
            refine GD.pure1 (i := 11) rfl (fun _ _ => rv_not rfl) ?_
            refine GD.done (by kernel_rfl) ?_
            refine GX.then ?_
            refine GC.cond rfl (fun c87 => ?_) (fun c87 => ?_)
            · cases c87
            · skip
              refine GC.skip ?_
              refine GX.blk ?_
              refine GX.then ?_
              refine GC.reg ?_
              refine GL.val (rv_move rfl) rfl ?_
              refine GL.val (rv_add rfl rfl (by omega) (by omega)) rfl ?_
              refine GL.val (rv_assign rfl) rfl ?_
              refine GL.nil ?_
              exact GX.round (k + 1) (by omega) (by omega) (by repeat (first | exact Sub.nil | refine Sub.cons rfl ?_)) (fun w9 h => by
                  exact h)
          · skip
            refine GC.exit ?_
            refine GX.then_exit ?_
            refine GX.then_exit ?_
            refine GX.blk_eq ?_
            refine GX.then ?_
            refine GC.seq ?_
            refine GC.reg ?_
            refine GL.step (ot_call hb_11 rfl (callOk fun w hh => mworks_c w) rfl fun _ _ => ?_)
            refine GL.val (rv_assign rfl) rfl ?_
            refine GL.nil ?_
            refine GX.then ?_
            refine GC.ret ?_
            refine GX.ret1 rfl (RR.tmp rfl) ?_
            exact fun w9 h => ⟨(), rfl, by
                have h := h.sel [] rfl rfl
                exact h, trivial⟩
end Go.Proofs.Ytkifeeiafachpaa
