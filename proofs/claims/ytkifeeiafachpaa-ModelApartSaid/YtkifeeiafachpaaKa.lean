import Derived.Test.YtkifeeiafachpaaJq
set_option linter.unusedVariables false
set_option linter.unusedSimpArgs false
namespace Go.Proofs.Ytkifeeiafachpaa
open Go Go.RowKit Go.Bz
theorem ag_33 : aggB Try.prog 33 = some true := by kernel_rfl
theorem ei_36 : elemInfo Try.prog 36 = some (33, 39, 120) := by kernel_rfl
theorem hb_10 : hasBody Try.prog 10 = true := by kernel_rfl
theorem hb_11 : hasBody Try.prog 11 = true := by kernel_rfl
theorem hb_14 : hasBody Try.prog 14 = true := by kernel_rfl
theorem hb_9 : hasBody Try.prog 9 = true := by kernel_rfl
theorem sz_33 : (Try.prog.info? 33).map (·.size) = some 39 := by kernel_rfl
/-! what a law's arguments are -/
def ofx (o : OpZ) : Fact := rfx o.2.1
def oOk1 (z : OpZ) : Prop := z.2.1.2.1.size < 4611686018427387904 ∧ z.2.1.2.2.1.length ≤ z.2.1.2.2.2.1.2 ∧ z.2.1.2.2.2.2.length = 32 ∧ z.2.2.1.size < 4611686018427387904
def eOk1 (e : EpZ) : Prop := (∀ b ∈ e.2, bOk b) ∧ e.2.length ≤ e.1.2 ∧ e.2.length ≤ 140737488355328
def qOk1 (q : ReqZ) : Prop := q.2.1.size < 4611686018427387904 ∧ q.2.2.1.length ≤ q.2.2.2.1.2 ∧ q.2.2.2.2.length = 32
def dOk1 (d : DirZ) : Prop := (∀ e ∈ d.1.2, eOk1 e) ∧ (∀ q ∈ d.2.1.2, qOk1 q) ∧ d.1.2.length ≤ 140737488355328 ∧ d.2.1.2.length ≤ 140737488355328
theorem dOk_of {d : DirZ} (h : dOk1 d) (l : LightP d) : dOk d :=
  ⟨fun e he => ⟨(h.1 e he).1, by have := sumL_mem he; have := l.2.2.1; omega, (h.1 e he).2.1⟩, fun q hq => ⟨(h.2.1 q hq).1, (h.2.1 q hq).2.1, l.2.2.2 q hq, (h.2.1 q hq).2.2⟩, by have := l.1; omega, by have := l.2.1; omega⟩
theorem oOk_of {os : List OpZ} (h : ∀ o ∈ os, oOk1 o) (l : FewP os) {o : OpZ} (ho : o ∈ os) : oOk o :=
  ⟨⟨(h o ho).1, (h o ho).2.1, by have := (l.2 o ho).1; omega, (h o ho).2.2.1⟩, (h o ho).2.2.2⟩
theorem has_of {w : World} {os : List OpZ} (h : Has w (os.map ofx)) {o : OpZ} (ho : o ∈ os) : Has w [rfx o.2.1] := fun f hf => by
  obtain rfl := List.mem_singleton.1 hf; exact h _ (List.mem_map_of_mem ho)
theorem sb_step {u v x y : DirZ} {o : OpZ} {G F I : List Fact} (h : Sbs (dfx u ++ dfx v) G (rfx o.2.1 :: (dfx x ++ dfx y))) (hs : Sbs (dfx x ++ dfx y) F I) (ho : rfx o.2.1 ∈ I) : Sbs (dfx u ++ dfx v) (G ++ F) I := h.trans (Sbs.cons (.inr (.inr ho)) hs)
theorem has_l {w0 w : World} {Fs : List Pc} {k : Nat} {x y : DirZ} {F I : List Fact} (h : Sbs (dfx x ++ dfx y) F I) (hh : Hd noB w0 w Fs) (e : Fs[k]? = some (Bz.frzN F)) (hI : Has w0 I) : Has w (dfx x) := fun f hf => h.has hh e hI f (List.mem_append_left _ hf)
theorem has_r {w0 w : World} {Fs : List Pc} {k : Nat} {x y : DirZ} {F I : List Fact} (h : Sbs (dfx x ++ dfx y) F I) (hh : Hd noB w0 w Fs) (e : Fs[k]? = some (Bz.frzN F)) (hI : Has w0 I) : Has w (dfx y) := fun f hf => h.has hh e hI f (List.mem_append_right _ hf)
theorem run_z {os : List OpZ} {i : Nat} (h : i < os.length) : runD ((os.map opl).take (i + 1)) = nextD (runD ((os.map opl).take i)) (opl os[i]) := by
  rw [runD_s _ _ (by rw [List.length_map]; exact h), List.getElem_map]
def dzN : DirZ := (((none, 0), []), ((none, 0), []), 1)
theorem or_first2 {a b : Prop} : a ∨ (¬ a ∧ b) ∨ (¬ a ∧ ¬ b) := by by_cases h1 : a <;> by_cases h2 : b <;> simp_all
set_option maxRecDepth 100000 in
set_option maxHeartbeats 1000000 in
theorem steps_law (d : DirZ) (o : OpZ) (w : World) (hD : Has w (dfx d)) (hd1 : dOk1 d) (hQ : Has w [rfx o.2.1]) (ho1 : oOk1 o) : Calls Try.prog 3 [.agg (dcell d).toArray, .agg (ozc o).toArray].toArray w fun e w' => ∃ _g : Unit, e = .returned (.bool true) ∧ St noB w w' [] ∧ True := by
  refine GC.calls Try.func3 rfl rfl (St.begin _) ?_
  have ho0 : ∀ x ∈ [o], oOk0 x := fun x hx => by obtain rfl := List.mem_singleton.1 hx; exact ho1.2.2.1
  have hol : (ozc o).length = 39 := oz_len ho0 o (List.mem_singleton.2 rfl)
  have hq0 : ∀ q ∈ d.2.1.2, qOk0 q := fun q hq => (hd1.2.1 q hq).2.2
  refine GC.seq ?_
  refine GC.reg ?_
  refine GL.step (ot_box rfl rfl rfl fun b2 => ?_)
  refine GL.step (ot_box rfl rfl rfl fun b3 => ?_)
  refine GL.val (rv_assign rfl) rfl ?_
  refine GL.nil ?_
  refine GX.then ?_
  refine GC.seq ?_
  refine GC.seq ?_
  refine GC.cutq (γ := Unit) [3, 2] [1, 0] (fun g Lk => (16, .bool (decide (¬ LightP d ∨ ¬ FewP [o]))) :: Lk) (fun g Fk => Fk) (fun g => True) rfl rfl ?_ (fun _ _ => ?_)
  · rcases (or_first2 : (¬ LightP d) ∨ (¬ ¬ LightP d ∧ ¬ FewP [o]) ∨ (¬ ¬ LightP d ∧ ¬ ¬ FewP [o])) with h | ⟨h, k⟩ | ⟨h, k⟩
    · have hb1 : decide (LightP d) = false := decide_eq_false h
      rw [show decide (¬ LightP d ∨ ¬ FewP [o]) = true from decide_eq_true (.inl h)]
      refine GC.reg ?_
      refine GL.val (rv_loadA ag_26 rfl (Hd.cells (k := 1) rfl (us := dcell d) rfl) (by exact sz_26)) rfl ?_
      refine GL.step (ot_call hb_9 rfl (callOk fun w hh => light_b _ d w (hh.rd0n (hD _ (dfx_e d))) (hh.rd0n (hD _ (dfx_q d))) hq0 (fun e he => (hd1.1 e he).2.2) hd1.2.2.1 hd1.2.2.2 hb1) rfl fun _ _ => ?_)
      refine GL.val (rv_not rfl) rfl ?_
      refine GL.val (rv_move rfl) rfl ?_
      refine GL.skipG rfl rfl ?_
      refine GL.skipG rfl rfl ?_
      refine GL.skipG rfl rfl ?_
      refine GL.skipG rfl rfl ?_
      refine GL.val ((by exact rv_orT rfl rfl rfl)) rfl ?_
      refine GL.nil ?_
      exact GX.cutq () trivial (by repeat (first | exact Sub.nil | refine Sub.cons rfl ?_)) (fun w9 h => by
          exact h)
    · have hb1 : decide (LightP d) = true := decide_eq_true (Decidable.byContradiction h)
      have hb2 : decide (FewP [o]) = false := decide_eq_false k
      rw [show decide (¬ LightP d ∨ ¬ FewP [o]) = true from decide_eq_true (.inr k)]
      refine GC.reg ?_
      refine GL.val (rv_loadA ag_26 rfl (Hd.cells (k := 1) rfl (us := dcell d) rfl) (by exact sz_26)) rfl ?_
      refine GL.step (ot_call hb_9 rfl (callOk fun w hh => light_b _ d w (hh.rd0n (hD _ (dfx_e d))) (hh.rd0n (hD _ (dfx_q d))) hq0 (fun e he => (hd1.1 e he).2.2) hd1.2.2.1 hd1.2.2.2 hb1) rfl fun _ _ => ?_)
      refine GL.val (rv_not rfl) rfl ?_
      refine GL.val (rv_move rfl) rfl ?_
      refine GL.valT rfl (rv_loadAL ag_33 rfl (Hd.cellsAll (k := 0) rfl) (by exact sz_33) hol) rfl ?_
      refine GL.stepG rfl (ot_buildSlice ei_36 rfl rfl (bs_one hol) rfl fm_one rfl fun b13 => ?_)
      refine GL.stepG rfl (ot_call hb_10 rfl (callOk fun w hh => few_b _ (some ⟨b13, 0, none⟩) 1 1 [o] w (.inr ⟨b13, 0, rfl, (by rw [fcat_one]; exact Hd.cellsAll (k := 0) rfl w hh)⟩) ho0 rfl hb2) rfl fun _ _ => ?_)
      refine GL.valT rfl (rv_not rfl) rfl ?_
      refine GL.val ((by exact rv_orF rfl rfl rfl)) rfl ?_
      refine GL.nil ?_
      exact GX.cutq () trivial (by repeat (first | exact Sub.nil | refine Sub.cons rfl ?_)) (fun w9 h => by
          have h := h.sel [2, 1] rfl rfl
          exact h)
    · have hb1 : decide (LightP d) = true := decide_eq_true (Decidable.byContradiction h)
      have hb2 : decide (FewP [o]) = true := decide_eq_true (Decidable.byContradiction k)
      rw [show decide (¬ LightP d ∨ ¬ FewP [o]) = false from decide_eq_false (fun q => q.elim h k)]
      refine GC.reg ?_
      refine GL.val (rv_loadA ag_26 rfl (Hd.cells (k := 1) rfl (us := dcell d) rfl) (by exact sz_26)) rfl ?_
      refine GL.step (ot_call hb_9 rfl (callOk fun w hh => light_b _ d w (hh.rd0n (hD _ (dfx_e d))) (hh.rd0n (hD _ (dfx_q d))) hq0 (fun e he => (hd1.1 e he).2.2) hd1.2.2.1 hd1.2.2.2 hb1) rfl fun _ _ => ?_)
      refine GL.val (rv_not rfl) rfl ?_
      refine GL.val (rv_move rfl) rfl ?_
      refine GL.valT rfl (rv_loadAL ag_33 rfl (Hd.cellsAll (k := 0) rfl) (by exact sz_33) hol) rfl ?_
      refine GL.stepG rfl (ot_buildSlice ei_36 rfl rfl (bs_one hol) rfl fm_one rfl fun b13 => ?_)
      refine GL.stepG rfl (ot_call hb_10 rfl (callOk fun w hh => few_b _ (some ⟨b13, 0, none⟩) 1 1 [o] w (.inr ⟨b13, 0, rfl, (by rw [fcat_one]; exact Hd.cellsAll (k := 0) rfl w hh)⟩) ho0 rfl hb2) rfl fun _ _ => ?_)
      refine GL.valT rfl (rv_not rfl) rfl ?_
      refine GL.val ((by exact rv_orF rfl rfl rfl)) rfl ?_
      refine GL.nil ?_
      exact GX.cutq () trivial (by repeat (first | exact Sub.nil | refine Sub.cons rfl ?_)) (fun w9 h => by
          have h := h.sel [2, 1] rfl rfl
          exact h)
  refine GX.then ?_
  refine GC.condP rfl (fun c16 => ?_) (fun c16 => ?_)
  · skip
    refine GC.seq ?_
    refine GC.reg ?_
    refine GL.step (ot_call hb_11 rfl (callOk fun w hh => mworks_c w) rfl fun _ _ => ?_)
    refine GL.val (rv_assign rfl) rfl ?_
    refine GL.nil ?_
    refine GX.then ?_
    refine GC.ret ?_
    refine GX.then_ret ?_
    refine GX.ret1 rfl (RR.tmp rfl) ?_
    exact fun w9 h => ⟨(), rfl, by
        have h := h.sel [] rfl rfl
        exact h, trivial⟩
  · have hok : dOk d := dOk_of hd1 (Decidable.byContradiction fun h => c16 (.inl h))
    have hoo : oOk o := oOk_of (os := [o]) (fun x hx => by obtain rfl := List.mem_singleton.1 hx; exact ho1) (Decidable.byContradiction fun h => c16 (.inr h)) (List.mem_singleton.2 rfl)
    refine GC.skip ?_
    refine GX.then ?_
    refine GC.seq ?_
    refine GC.seq ?_
    refine GC.draw 5 [1] mo_ ?_
    refine GD.read1 (i := 0) rfl (rv_loadA ag_26 rfl (Hd.cells (k := 0) rfl (us := dcell d) rfl) (by exact sz_26)) ?_
    refine GD.read1 (i := 2) rfl (rv_loadA ag_26 rfl (Hd.cells (k := 0) rfl (us := dcell d) rfl) (by exact sz_26)) ?_
    refine GD.step (i := 1) (by kernel_rfl) rfl (ot_call hb_12 rfl (callOk fun w hh => ck_c d w (hD.lift hh) hok) rfl fun _ _ => ⟨.inr fun _ h => h.pk [1], ?_⟩)
    refine GD.step (i := 3) (by kernel_rfl) rfl (ot_call hb_13 rfl (callOk fun w hh => rck_c d w (hD.lift hh) hok) rfl fun _ _ => ⟨.inr fun _ h => h.pk [1], ?_⟩)
    refine GD.pure1 (i := 4) rfl (fun _ _ => rv_to (v' := .bool false) (rv_neI rfl rfl) (by simp)) ?_
    refine GD.done (by kernel_rfl) ?_
    refine GX.then ?_
    refine GC.cond rfl (fun c22 => ?_) (fun c22 => ?_)
    · cases c22
    · skip
      refine GC.skip ?_
      refine GX.then ?_
      refine GC.seq ?_
      refine GC.reg ?_
      refine GL.val (rv_loadA ag_26 rfl (Hd.cells (k := 1) rfl (us := dcell d) rfl) (by exact sz_26)) rfl ?_
      refine GL.val (rv_loadA ag_26 rfl (Hd.cells (k := 1) rfl (us := dcell d) rfl) (by exact sz_26)) rfl ?_
      refine GL.val (rv_loadAL ag_33 rfl (Hd.cellsAll (k := 0) rfl) (by exact sz_33) hol) rfl ?_
      refine GL.step (ot_call hb_14 rfl (callOk fun w hh => step_c d d o w (hD.lift hh) (hD.lift hh) hok hok rfl (hQ.lift hh) hoo) rfl fun g27 h27 => ?_)
      refine GL.val (rv_move rfl) rfl ?_
      refine GL.val (rv_extract rfl rfl) rfl ?_
      refine GL.val (rv_extract rfl rfl) rfl ?_
      refine GL.val (rv_extract rfl rfl) rfl ?_
      refine GL.step (ot_alloc (zs := [.slice none 0 0, .slice none 0 0, .int .u64 0]) zb_26 rfl rfl fun b5 => ?_)
      refine GL.step (ot_alloc (zs := [.slice none 0 0, .slice none 0 0, .int .u64 0]) zb_26 rfl rfl fun b6 => ?_)
      refine GL.step (ot_store (k := 1) rfl rfl rfl rfl sz_26 rfl rfl (show repl _ 0 (dcell g27.1.1) = dcell g27.1.1 from rfl) ?_)
      refine GL.step (ot_store (k := 0) rfl rfl rfl rfl sz_26 rfl rfl (show repl _ 0 (dcell g27.1.2) = dcell g27.1.2 from rfl) ?_)
      refine GL.val (rv_assign rfl) rfl ?_
      refine GL.nil ?_
      refine GX.then ?_
      refine GC.seq ?_
      refine GC.reg ?_
      refine GL.val (rv_move rfl) rfl ?_
      refine GL.val (rv_move rfl) rfl ?_
      refine GL.stepG rfl (ot_call hb_11 rfl (callOk fun w hh => mworks_c w) rfl fun _ _ => ?_)
      refine GL.val ((by exact rv_andT rfl rfl rfl)) rfl ?_
      refine GL.val (rv_assign rfl) rfl ?_
      refine GL.nil ?_
      refine GX.then ?_
      refine GC.ret ?_
      refine GX.ret1 rfl (RR.tmp rfl) ?_
      exact fun w9 h => ⟨(), rfl, by
          have h := h.sel [] rfl rfl
          exact h, trivial⟩
theorem sb_new {I : List Fact} : Sbs (dfx dzN) [] I := Sbs.cons (.inl rfl) (Sbs.cons (.inl rfl) (Sbs.nil _ _))
set_option maxRecDepth 100000 in
set_option maxHeartbeats 1000000 in
theorem does_law (A : Option Addr) (c : Nat) (os : List OpZ) (w : World) (hR : SlR w A (fcat ozc os)) (hof : Has w (os.map ofx)) (ho1 : ∀ o ∈ os, oOk1 o) : Calls Try.prog 4 [.slice A os.length c].toArray w fun e w' => ∃ _g : Unit, e = .returned (.bool true) ∧ St noB w w' [] ∧ True := by
  refine GC.calls Try.func4 rfl rfl (St.begin _) ?_
  have ho0 : ∀ o ∈ os, oOk0 o := fun o ho => (ho1 o ho).2.2.1
  refine GC.seq ?_
  refine GC.reg ?_
  refine GL.val (rv_assign rfl) rfl ?_
  refine GL.nil ?_
  refine GX.then ?_
  refine GC.seq ?_
  refine GC.seq ?_
  refine GC.reg ?_
  refine GL.val (rv_move rfl) rfl ?_
  refine GL.step (ot_call hb_10 rfl (callOk fun w hh => few_b _ A _ c os w (hh.rd0n hR) ho0 rfl rfl) rfl fun _ _ => ?_)
  refine GL.val (rv_not rfl) rfl ?_
  refine GL.nil ?_
  refine GX.then ?_
  refine GC.cond rfl (fun c11 => ?_) (fun c11 => ?_)
  · skip
    refine GC.seq ?_
    refine GC.reg ?_
    refine GL.step (ot_call hb_11 rfl (callOk fun w hh => mworks_c w) rfl fun _ _ => ?_)
    refine GL.val (rv_assign rfl) rfl ?_
    refine GL.nil ?_
    refine GX.then ?_
    refine GC.ret ?_
    refine GX.then_ret ?_
    refine GX.ret1 rfl (RR.tmp rfl) ?_
    exact fun w9 h => ⟨(), rfl, by
        exact h, trivial⟩
  · have hfw : FewP os := by simpa using c11
    refine GC.skip ?_
    refine GX.then ?_
    refine GC.seq ?_
    refine GC.reg ?_
    refine GL.step (ot_call hb_15 rfl (callOk fun w hh => mnew_c w) rfl fun _ _ => ?_)
    refine GL.val (rv_to (v' := .agg (dcell dzN).toArray) (rv_buildS pl_26 zb_26 rfl rfl rfl) rfl) rfl ?_
    refine GL.step (ot_alloc (zs := [.slice none 0 0, .slice none 0 0, .int .u64 0]) zb_26 rfl rfl fun b3 => ?_)
    refine GL.step (ot_alloc (zs := [.slice none 0 0, .slice none 0 0, .int .u64 0]) zb_26 rfl rfl fun b4 => ?_)
    refine GL.step (ot_store (k := 1) rfl rfl rfl rfl sz_26 rfl rfl (show repl _ 0 (dcell dzN) = dcell dzN from rfl) ?_)
    refine GL.step (ot_store (k := 0) rfl rfl rfl rfl sz_26 rfl rfl (show repl _ 0 (dcell dzN) = dcell dzN from rfl) ?_)
    refine GL.nil ?_
    refine GX.then ?_
    refine GC.seq ?_
    refine GC.seq ?_
    refine GC.reg ?_
    refine GL.val (rv_assign rfl) rfl ?_
    refine GL.nil ?_
    refine GX.then ?_
    refine GC.block ?_
    refine GC.loopK (γ := Nat × DirZ × DirZ × List Fact) [4, 3, 0] [] (fun g Lk => (5, .int .i64 (g.1 : Int)) :: Lk) (fun g Fk => .cl b3 (dcell g.2.1) 26 :: .cl b4 (dcell g.2.2.1) 26 :: frzN g.2.2.2 :: Fk) (fun g => (g.1 ≤ os.length) ∧ (dpl g.2.1 = runD ((os.map opl).take g.1)) ∧ (dpl g.2.2.1 = runD ((os.map opl).take g.1)) ∧ (Sbs (dfx g.2.1 ++ dfx g.2.2.1) g.2.2.2 (os.map ofx)) ∧ (dOk g.2.1) ∧ (dOk g.2.2.1)) (fun g => os.length - g.1) (0, dzN, dzN, []) rfl rfl ⟨Nat.zero_le _, rfl, rfl, (fun f hf => (List.mem_append.1 hf).elim (sb_new f) (sb_new f)), dok_new 1, dok_new 1⟩ (by repeat (first | exact Sub.nil | refine Sub.cons rfl ?_)) (fun w9 h => by
        have h := h.frzN0
        have h := h.sel [0, 1, 2] rfl rfl
        exact h) (fun ⟨i, x, y, F⟩ ⟨hi, hx, hy, hs, hox, hoy⟩ => ?_)
    dsimp only at hi hx hy hs hox hoy ⊢
    refine GC.seq ?_
    refine GC.seq ?_
    refine GC.reg ?_
    refine GL.val (rv_move rfl) rfl ?_
    refine GL.val (rv_move rfl) rfl ?_
    refine GL.val (rv_lenSl Try.underlying36 rfl) rfl ?_
    refine GL.val (rv_lss rfl rfl) rfl ?_
    refine GL.nil ?_
    refine GX.then ?_
    refine GC.condP rfl (fun c18 => ?_) (fun c18 => ?_)
    · have hlt : i < os.length := by omega
      have h60 := hfw.1
      obtain ⟨b, o, hAo, hC⟩ := slr_some hR (fcat_ne (oz_len ho0) (by decide) hlt)
      have hom : os[i] ∈ os := List.getElem_mem _
      have hoi := oOk_of ho1 hfw hom
      have hol : (ozc os[i]).length = 39 := oz_len ho0 _ hom
      refine GC.skip ?_
      refine GX.then ?_
      refine GC.seq ?_
      refine GC.block ?_
      refine GC.seq ?_
      refine GC.cutq (γ := Nat × Nat × DirZ × DirZ × List Fact) [5, 4, 3, 0] [1, 0] (fun g Lk => (6, .pointer (some ⟨g.1, 0, none⟩)) :: (7, .pointer (some ⟨g.2.1, 0, none⟩)) :: (8, .bool true) :: Lk) (fun g Fk => .cl g.1 (dcell g.2.2.1) 26 :: .cl g.2.1 (dcell g.2.2.2.1) 26 :: frzN g.2.2.2.2 :: Fk) (fun g => (dpl g.2.2.1 = runD ((os.map opl).take (i + 1))) ∧ (dpl g.2.2.2.1 = runD ((os.map opl).take (i + 1))) ∧ (Sbs (dfx g.2.2.1 ++ dfx g.2.2.2.1) g.2.2.2.2 (os.map ofx)) ∧ (dOk g.2.2.1) ∧ (dOk g.2.2.2.1)) rfl rfl ?_ (fun ⟨p6, p7, u, v, G⟩ ⟨hu, hv, hsu, hou, hov⟩ => ?_)
      · refine GC.draw 13 [0, 1] mo_ ?_
        refine GD.pure1 (i := 2) rfl (fun _ _ => rv_move rfl) ?_
        refine GD.pure1 (i := 3) rfl (fun _ _ => rv_move rfl) ?_
        refine GD.pure1 (i := 4) rfl (fun _ _ => rv_elemJ (q := o + i * 39) i es_36 (by rw [hAo]; rfl) rfl rfl hlt rfl) ?_
        refine GD.read1 (i := 0) rfl (rv_loadA ag_26 rfl (Hd.cells (k := 0) rfl (us := dcell x) rfl) (by exact sz_26)) ?_
        refine GD.read1 (i := 1) rfl (rv_loadA ag_26 rfl (Hd.cells (k := 1) rfl (us := dcell y) rfl) (by exact sz_26)) ?_
        refine GD.read1 (i := 5) rfl (rv_loadAL ag_33 rfl (Hd.cells0 (hC.fcat (oz_len ho0) i hlt) (fun h => h)) (by exact sz_33) hol) ?_
        refine GD.eachN3 (i := 6) (j := 11) (l := 12) (by kernel_rfl) rfl rfl rfl ?_ ?_ ?_
        · refine ot_call hb_14 rfl (callOk fun w hh => step_c x y os[i] w (has_l hs hh (k := 2) rfl hof) (has_r hs hh (k := 2) rfl hof) hox hoy (hx.trans hy.symm) ((has_of hof hom).lift hh) hoi) rfl fun g28 h28 => ⟨.inr fun _ h => h.pk [1, 2], ?_⟩
          refine GD.pure1 (i := 7) rfl (fun _ _ => rv_move rfl) ?_
          refine GD.pure1 (i := 8) rfl (fun _ _ => rv_extract rfl rfl) ?_
          refine GD.pure1 (i := 9) rfl (fun _ _ => rv_extract rfl rfl) ?_
          refine GD.pure1 (i := 10) rfl (fun _ _ => rv_extract rfl rfl) ?_
          refine GD.eachN2 (i := 11) (j := 12) (by kernel_rfl) rfl rfl ?_ ?_
          · refine ot_alloc (zs := [.slice none 0 0, .slice none 0 0, .int .u64 0]) zb_26 rfl rfl fun b6 => ⟨.inr fun _ h => h.pk [2, 3], ?_⟩
            refine GD.step (i := 12) (by kernel_rfl) rfl (ot_alloc (zs := [.slice none 0 0, .slice none 0 0, .int .u64 0]) zb_26 rfl rfl fun b7 => ⟨.inr fun _ h => h.pk [3, 4], ?_⟩)
            refine GD.step (i := 13) (by kernel_rfl) rfl (ot_store (k := 1) rfl rfl rfl rfl sz_26 rfl rfl (show repl _ 0 (dcell g28.1.1) = dcell g28.1.1 from rfl) ⟨.inl rfl, ?_⟩)
            refine GD.step (i := 14) (by kernel_rfl) rfl (ot_store (k := 0) rfl rfl rfl rfl sz_26 rfl rfl (show repl _ 0 (dcell g28.1.2) = dcell g28.1.2 from rfl) ⟨.inl rfl, ?_⟩)
            refine GD.pure1 (i := 15) rfl (fun _ _ => rv_assign rfl) ?_
            refine GD.done (by kernel_rfl) ?_
            obtain ⟨hp1, hp2, hsb, ho1x, ho1y⟩ := h28
            exact GX.cutq (b6, b7, g28.1.1, g28.1.2, g28.2 ++ F) ⟨by rw [run_z hlt, ← hx]; exact hp1, by rw [run_z hlt, ← hx]; exact hp2, sb_step hsb hs (List.mem_map_of_mem hom), ho1x, ho1y⟩ (by repeat (first | exact Sub.nil | refine Sub.cons rfl ?_)) (fun w9 h => by
                have h := h.sel [4, 3, 0, 1, 5, 2] rfl rfl
                have h := h.frzNAdd
                have h := h.sel [4, 3, 0, 2, 1] rfl rfl
                exact h)
          · refine ot_alloc (zs := [.slice none 0 0, .slice none 0 0, .int .u64 0]) zb_26 rfl rfl fun b7 => ⟨.inr fun _ h => h.pk [2, 3], ?_⟩
            refine GD.step (i := 11) (by kernel_rfl) rfl (ot_alloc (zs := [.slice none 0 0, .slice none 0 0, .int .u64 0]) zb_26 rfl rfl fun b6 => ⟨.inr fun _ h => h.pk [3, 4], ?_⟩)
            refine GD.step (i := 13) (by kernel_rfl) rfl (ot_store (k := 0) rfl rfl rfl rfl sz_26 rfl rfl (show repl _ 0 (dcell g28.1.1) = dcell g28.1.1 from rfl) ⟨.inl rfl, ?_⟩)
            refine GD.step (i := 14) (by kernel_rfl) rfl (ot_store (k := 1) rfl rfl rfl rfl sz_26 rfl rfl (show repl _ 0 (dcell g28.1.2) = dcell g28.1.2 from rfl) ⟨.inl rfl, ?_⟩)
            refine GD.pure1 (i := 15) rfl (fun _ _ => rv_assign rfl) ?_
            refine GD.done (by kernel_rfl) ?_
            obtain ⟨hp1, hp2, hsb, ho1x, ho1y⟩ := h28
            exact GX.cutq (b6, b7, g28.1.1, g28.1.2, g28.2 ++ F) ⟨by rw [run_z hlt, ← hx]; exact hp1, by rw [run_z hlt, ← hx]; exact hp2, sb_step hsb hs (List.mem_map_of_mem hom), ho1x, ho1y⟩ (by repeat (first | exact Sub.nil | refine Sub.cons rfl ?_)) (fun w9 h => by
                have h := h.sel [4, 3, 1, 0, 5, 2] rfl rfl
                have h := h.frzNAdd
                have h := h.sel [4, 3, 0, 2, 1] rfl rfl
                exact h)
        · refine ot_alloc (zs := [.slice none 0 0, .slice none 0 0, .int .u64 0]) zb_26 rfl rfl fun b6 => ⟨.inr fun _ h => h.pk [1, 2], ?_⟩
          refine GD.eachN2 (i := 6) (j := 12) (by kernel_rfl) rfl rfl ?_ ?_
          · refine ot_call hb_14 rfl (callOk fun w hh => step_c x y os[i] w (has_l hs hh (k := 3) rfl hof) (has_r hs hh (k := 3) rfl hof) hox hoy (hx.trans hy.symm) ((has_of hof hom).lift hh) hoi) rfl fun g28 h28 => ⟨.inr fun _ h => h.pk [2, 3], ?_⟩
            refine GD.pure1 (i := 7) rfl (fun _ _ => rv_move rfl) ?_
            refine GD.pure1 (i := 8) rfl (fun _ _ => rv_extract rfl rfl) ?_
            refine GD.pure1 (i := 9) rfl (fun _ _ => rv_extract rfl rfl) ?_
            refine GD.pure1 (i := 10) rfl (fun _ _ => rv_extract rfl rfl) ?_
            refine GD.step (i := 12) (by kernel_rfl) rfl (ot_alloc (zs := [.slice none 0 0, .slice none 0 0, .int .u64 0]) zb_26 rfl rfl fun b7 => ⟨.inr fun _ h => h.pk [3, 4], ?_⟩)
            refine GD.step (i := 13) (by kernel_rfl) rfl (ot_store (k := 2) rfl rfl rfl rfl sz_26 rfl rfl (show repl _ 0 (dcell g28.1.1) = dcell g28.1.1 from rfl) ⟨.inl rfl, ?_⟩)
            refine GD.step (i := 14) (by kernel_rfl) rfl (ot_store (k := 0) rfl rfl rfl rfl sz_26 rfl rfl (show repl _ 0 (dcell g28.1.2) = dcell g28.1.2 from rfl) ⟨.inl rfl, ?_⟩)
            refine GD.pure1 (i := 15) rfl (fun _ _ => rv_assign rfl) ?_
            refine GD.done (by kernel_rfl) ?_
            obtain ⟨hp1, hp2, hsb, ho1x, ho1y⟩ := h28
            exact GX.cutq (b6, b7, g28.1.1, g28.1.2, g28.2 ++ F) ⟨by rw [run_z hlt, ← hx]; exact hp1, by rw [run_z hlt, ← hx]; exact hp2, sb_step hsb hs (List.mem_map_of_mem hom), ho1x, ho1y⟩ (by repeat (first | exact Sub.nil | refine Sub.cons rfl ?_)) (fun w9 h => by
                have h := h.sel [4, 3, 0, 2, 5, 1] rfl rfl
                have h := h.frzNAdd
                have h := h.sel [4, 3, 0, 2, 1] rfl rfl
                exact h)
          · refine ot_alloc (zs := [.slice none 0 0, .slice none 0 0, .int .u64 0]) zb_26 rfl rfl fun b7 => ⟨.inr fun _ h => h.pk [2, 3], ?_⟩
            refine GD.step (i := 6) (by kernel_rfl) rfl (ot_call hb_14 rfl (callOk fun w hh => step_c x y os[i] w (has_l hs hh (k := 4) rfl hof) (has_r hs hh (k := 4) rfl hof) hox hoy (hx.trans hy.symm) ((has_of hof hom).lift hh) hoi) rfl fun g28 h28 => ⟨.inr fun _ h => h.pk [3, 4], ?_⟩)
            refine GD.pure1 (i := 7) rfl (fun _ _ => rv_move rfl) ?_
            refine GD.pure1 (i := 8) rfl (fun _ _ => rv_extract rfl rfl) ?_
            refine GD.pure1 (i := 9) rfl (fun _ _ => rv_extract rfl rfl) ?_
            refine GD.pure1 (i := 10) rfl (fun _ _ => rv_extract rfl rfl) ?_
            refine GD.step (i := 13) (by kernel_rfl) rfl (ot_store (k := 2) rfl rfl rfl rfl sz_26 rfl rfl (show repl _ 0 (dcell g28.1.1) = dcell g28.1.1 from rfl) ⟨.inl rfl, ?_⟩)
            refine GD.step (i := 14) (by kernel_rfl) rfl (ot_store (k := 1) rfl rfl rfl rfl sz_26 rfl rfl (show repl _ 0 (dcell g28.1.2) = dcell g28.1.2 from rfl) ⟨.inl rfl, ?_⟩)
            refine GD.pure1 (i := 15) rfl (fun _ _ => rv_assign rfl) ?_
            refine GD.done (by kernel_rfl) ?_
            obtain ⟨hp1, hp2, hsb, ho1x, ho1y⟩ := h28
            exact GX.cutq (b6, b7, g28.1.1, g28.1.2, g28.2 ++ F) ⟨by rw [run_z hlt, ← hx]; exact hp1, by rw [run_z hlt, ← hx]; exact hp2, sb_step hsb hs (List.mem_map_of_mem hom), ho1x, ho1y⟩ (by repeat (first | exact Sub.nil | refine Sub.cons rfl ?_)) (fun w9 h => by
                have h := h.sel [4, 3, 1, 2, 5, 0] rfl rfl
                have h := h.frzNAdd
                have h := h.sel [4, 3, 0, 2, 1] rfl rfl
                exact h)
        · refine ot_alloc (zs := [.slice none 0 0, .slice none 0 0, .int .u64 0]) zb_26 rfl rfl fun b7 => ⟨.inr fun _ h => h.pk [1, 2], ?_⟩
          refine GD.eachN2 (i := 6) (j := 11) (by kernel_rfl) rfl rfl ?_ ?_
          · refine ot_call hb_14 rfl (callOk fun w hh => step_c x y os[i] w (has_l hs hh (k := 3) rfl hof) (has_r hs hh (k := 3) rfl hof) hox hoy (hx.trans hy.symm) ((has_of hof hom).lift hh) hoi) rfl fun g28 h28 => ⟨.inr fun _ h => h.pk [2, 3], ?_⟩
            refine GD.pure1 (i := 7) rfl (fun _ _ => rv_move rfl) ?_
            refine GD.pure1 (i := 8) rfl (fun _ _ => rv_extract rfl rfl) ?_
            refine GD.pure1 (i := 9) rfl (fun _ _ => rv_extract rfl rfl) ?_
            refine GD.pure1 (i := 10) rfl (fun _ _ => rv_extract rfl rfl) ?_
            refine GD.step (i := 11) (by kernel_rfl) rfl (ot_alloc (zs := [.slice none 0 0, .slice none 0 0, .int .u64 0]) zb_26 rfl rfl fun b6 => ⟨.inr fun _ h => h.pk [3, 4], ?_⟩)
            refine GD.step (i := 13) (by kernel_rfl) rfl (ot_store (k := 0) rfl rfl rfl rfl sz_26 rfl rfl (show repl _ 0 (dcell g28.1.1) = dcell g28.1.1 from rfl) ⟨.inl rfl, ?_⟩)
            refine GD.step (i := 14) (by kernel_rfl) rfl (ot_store (k := 2) rfl rfl rfl rfl sz_26 rfl rfl (show repl _ 0 (dcell g28.1.2) = dcell g28.1.2 from rfl) ⟨.inl rfl, ?_⟩)
            refine GD.pure1 (i := 15) rfl (fun _ _ => rv_assign rfl) ?_
            refine GD.done (by kernel_rfl) ?_
            obtain ⟨hp1, hp2, hsb, ho1x, ho1y⟩ := h28
            exact GX.cutq (b6, b7, g28.1.1, g28.1.2, g28.2 ++ F) ⟨by rw [run_z hlt, ← hx]; exact hp1, by rw [run_z hlt, ← hx]; exact hp2, sb_step hsb hs (List.mem_map_of_mem hom), ho1x, ho1y⟩ (by repeat (first | exact Sub.nil | refine Sub.cons rfl ?_)) (fun w9 h => by
                have h := h.sel [4, 3, 2, 0, 5, 1] rfl rfl
                have h := h.frzNAdd
                have h := h.sel [4, 3, 0, 2, 1] rfl rfl
                exact h)
          · refine ot_alloc (zs := [.slice none 0 0, .slice none 0 0, .int .u64 0]) zb_26 rfl rfl fun b6 => ⟨.inr fun _ h => h.pk [2, 3], ?_⟩
            refine GD.step (i := 6) (by kernel_rfl) rfl (ot_call hb_14 rfl (callOk fun w hh => step_c x y os[i] w (has_l hs hh (k := 4) rfl hof) (has_r hs hh (k := 4) rfl hof) hox hoy (hx.trans hy.symm) ((has_of hof hom).lift hh) hoi) rfl fun g28 h28 => ⟨.inr fun _ h => h.pk [3, 4], ?_⟩)
            refine GD.pure1 (i := 7) rfl (fun _ _ => rv_move rfl) ?_
            refine GD.pure1 (i := 8) rfl (fun _ _ => rv_extract rfl rfl) ?_
            refine GD.pure1 (i := 9) rfl (fun _ _ => rv_extract rfl rfl) ?_
            refine GD.pure1 (i := 10) rfl (fun _ _ => rv_extract rfl rfl) ?_
            refine GD.step (i := 13) (by kernel_rfl) rfl (ot_store (k := 1) rfl rfl rfl rfl sz_26 rfl rfl (show repl _ 0 (dcell g28.1.1) = dcell g28.1.1 from rfl) ⟨.inl rfl, ?_⟩)
            refine GD.step (i := 14) (by kernel_rfl) rfl (ot_store (k := 2) rfl rfl rfl rfl sz_26 rfl rfl (show repl _ 0 (dcell g28.1.2) = dcell g28.1.2 from rfl) ⟨.inl rfl, ?_⟩)
            refine GD.pure1 (i := 15) rfl (fun _ _ => rv_assign rfl) ?_
            refine GD.done (by kernel_rfl) ?_
            obtain ⟨hp1, hp2, hsb, ho1x, ho1y⟩ := h28
            exact GX.cutq (b6, b7, g28.1.1, g28.1.2, g28.2 ++ F) ⟨by rw [run_z hlt, ← hx]; exact hp1, by rw [run_z hlt, ← hx]; exact hp2, sb_step hsb hs (List.mem_map_of_mem hom), ho1x, ho1y⟩ (by repeat (first | exact Sub.nil | refine Sub.cons rfl ?_)) (fun w9 h => by
                have h := h.sel [4, 3, 2, 1, 5, 0] rfl rfl
                have h := h.frzNAdd
                have h := h.sel [4, 3, 0, 2, 1] rfl rfl
                exact h)
      dsimp only at hu hv hsu hou hov ⊢
      refine GX.then ?_
      refine GC.seq ?_
      refine GC.seq ?_
      refine GC.reg ?_
      refine GL.val (rv_move rfl) rfl ?_
      refine GL.val (rv_not rfl) rfl ?_
      refine GL.val (rv_move rfl) rfl ?_
      refine GL.valT rfl (rv_loadA ag_26 rfl (Hd.cells (k := 0) rfl (us := dcell u) rfl) (by exact sz_26)) rfl ?_
      refine GL.stepG rfl (ot_call hb_12 rfl (callOk fun w hh => ck_c u w (has_l hsu hh (k := 2) rfl hof) hou) rfl fun _ _ => ?_)
      rw [ck_yes (show ckP (dpl u) from hu ▸ ck_run _)]
      refine GL.valT rfl (rv_to (v' := .bool false) (rv_neI rfl rfl) (by simp)) rfl ?_
      refine GL.val ((by exact rv_orF rfl rfl rfl)) rfl ?_
      refine GL.nil ?_
      refine GX.then ?_
      refine GC.cond rfl (fun c38 => ?_) (fun c38 => ?_)
      · cases c38
      · skip
        refine GC.skip ?_
        refine GX.then ?_
        refine GC.draw 3 [0, 1] mo_ ?_
        refine GD.read1 (i := 0) rfl (rv_loadA ag_26 rfl (Hd.cells (k := 0) rfl (us := dcell u) rfl) (by exact sz_26)) ?_
        refine GD.read1 (i := 1) rfl (rv_loadA ag_26 rfl (Hd.cells (k := 1) rfl (us := dcell v) rfl) (by exact sz_26)) ?_
        refine GD.step (i := 2) (by kernel_rfl) rfl (ot_store (k := 3) rfl rfl rfl rfl sz_26 rfl rfl (show repl (dcell x) 0 (dcell u) = dcell u from rfl) ⟨.inr fun _ h => h.pk [0, 1], ?_⟩)
        refine GD.step (i := 3) (by kernel_rfl) rfl (ot_store (k := 4) rfl rfl rfl rfl sz_26 rfl rfl (show repl (dcell y) 0 (dcell v) = dcell v from rfl) ⟨.inl rfl, ?_⟩)
        refine GD.done (by kernel_rfl) ?_
        refine GX.blk ?_
        refine GX.then ?_
        refine GC.reg ?_
        refine GL.val (rv_move rfl) rfl ?_
        refine GL.val (rv_add rfl rfl (by omega) (by omega)) rfl ?_
        refine GL.val (rv_assign rfl) rfl ?_
        refine GL.nil ?_
        exact GX.round (i + 1, u, v, G) (by dsimp only; omega) ⟨by dsimp only; omega, hu, hv, hsu, hou, hov⟩ (by repeat (first | exact Sub.nil | refine Sub.cons rfl ?_)) (fun w9 h => by
            have h := h.sel [2, 4, 3] rfl rfl
            exact h)
    · skip
      refine GC.exit ?_
      refine GX.then_exit ?_
      refine GX.then_exit ?_
      refine GX.blk_eq ?_
      refine GX.then ?_
      refine GC.seq ?_
      refine GC.reg ?_
      refine GL.val (rv_loadA ag_26 rfl (Hd.cells (k := 0) rfl (us := dcell x) rfl) (by exact sz_26)) rfl ?_
      refine GL.val (rv_loadA ag_26 rfl (Hd.cells (k := 1) rfl (us := dcell y) rfl) (by exact sz_26)) rfl ?_
      refine GL.step (ot_call hb_16 rfl (callOk fun w hh => same_t x y w (has_l hs hh (k := 2) rfl hof) (has_r hs hh (k := 2) rfl hof) hox hoy (hx.trans hy.symm)) rfl fun _ _ => ?_)
      refine GL.val (rv_move rfl) rfl ?_
      refine GL.stepG rfl (ot_call hb_11 rfl (callOk fun w hh => mworks_c w) rfl fun _ _ => ?_)
      refine GL.val ((by exact rv_andT rfl rfl rfl)) rfl ?_
      refine GL.val (rv_assign rfl) rfl ?_
      refine GL.nil ?_
      refine GX.then ?_
      refine GC.ret ?_
      refine GX.ret1 rfl (RR.tmp rfl) ?_
      exact fun w9 h => ⟨(), rfl, by
          have h := h.sel [] rfl rfl
          exact h, trivial⟩
end Go.Proofs.Ytkifeeiafachpaa
