import Derived.Test.YtkifeeiafachpaaA
set_option linter.unusedVariables false
set_option linter.unusedSimpArgs false
namespace Go.Proofs.Ytkifeeiafachpaa
open Go Go.RowKit Go.Bz
theorem ag_119 : aggB Try.prog 119 = some false := by kernel_rfl
theorem as_116 : arrSz Try.prog 116 = some (64, 1) := by kernel_rfl
theorem hb_94 : hasBody Try.prog 94 = true := by kernel_rfl
theorem hb_95 : hasBody Try.prog 95 = true := by kernel_rfl
theorem hb_96 : hasBody Try.prog 96 = true := by kernel_rfl
theorem hb_97 : hasBody Try.prog 97 = true := by kernel_rfl
theorem hb_98 : hasBody Try.prog 98 = true := by kernel_rfl
theorem sz_119 : (Try.prog.info? 119).map (·.size) = some 1 := by kernel_rfl
set_option maxRecDepth 100000 in
set_option maxHeartbeats 1000000 in
theorem spread_c (b o : Nat) (blk : Sh.B) (w : World) (hC : Cells w b o (byts blk)) (hl : blk.length = 64) :
    Calls Try.prog 92 [.pointer (some ⟨b, o, none⟩)].toArray w fun e w' => ∃ _g : Unit, e = .returned (.agg (ws32 (Sh.sched blk)).toArray) ∧ St noB w w' [] ∧ True := by
  refine GC.calls Try.func92 rfl rfl (St.begin _) ?_
  refine GC.seq ?_
  refine GC.reg ?_
  refine GL.step (ot_alloc (zs := ws32 (List.replicate 64 0)) zb_125 (rfl) rfl fun b2 => ?_)
  refine GL.nil ?_
  refine GX.then ?_
  refine GC.seq ?_
  refine GC.reg ?_
  refine GL.step (ot_alloc (zs := ws32 (List.replicate 64 0)) zb_125 (rfl) rfl fun b3 => ?_)
  refine GL.nil ?_
  refine GX.then ?_
  refine GC.seq ?_
  refine GC.seq ?_
  refine GC.reg ?_
  refine GL.val (rv_move rfl) rfl ?_
  refine GL.nil ?_
  refine GX.then ?_
  refine GC.block ?_
  refine GC.loopK (γ := Nat) [3, 2, 0] [1] (fun g Lk => (10, .int .i64 (g : Int)) :: Lk) (fun g Fk => .cl b3 (ws32 (Sh.iwTo blk g)) 125 :: Fk) (fun g => g ≤ 16) (fun g => 16 - g) (0) rfl rfl (Nat.zero_le _) (by repeat (first | exact Sub.nil | refine Sub.cons rfl ?_)) (fun w9 h => by
      exact h) (fun t ht => ?_)
  skip
  refine GC.seq ?_
  refine GC.reg ?_
  refine GL.val (rv_lss rfl rfl) rfl ?_
  refine GL.nil ?_
  refine GX.then ?_
  refine GC.seq ?_
  refine GC.condP rfl (fun c11 => ?_) (fun c11 => ?_)
  · have hlt : t < 16 := by omega
    refine GC.skip ?_
    refine GX.then ?_
    refine GC.seq ?_
    refine GC.block ?_
    refine GC.seq ?_
    refine GC.reg ?_
    refine GL.val (rv_move rfl) rfl ?_
    refine GL.val (rv_assign rfl) rfl ?_
    refine GL.nil ?_
    refine GX.then ?_
    refine GC.reg ?_
    refine GL.val (rv_move rfl) rfl ?_
    refine GL.val (rv_move rfl) rfl ?_
    refine GL.val (rv_nil rfl) rfl ?_
    refine GL.val (rv_move rfl) rfl ?_
    refine GL.val (rv_mulI rfl rfl (by omega) (by omega)) rfl ?_
    refine GL.val (rv_slA (E := 5) as_116 rfl rfl rfl (4 * t) (64) (o + 4 * t) (by rfl) (by rfl) (by omega) (by decide) (by omega) (by omega)) rfl ?_
    refine GL.step (ot_call hb_98 rfl (callOk fun w hh => word_c b o (4 * t) _ _ blk w (Hd.cells0 hC (fun h => h) w hh) (by omega) (by omega)) rfl fun _ _ => ?_)
    refine GL.val (rv_elemAJ (q := t) (t) as_125 rfl rfl (by rfl) (by omega) (by omega)) rfl ?_
    refine GL.step (ot_store1 (k := 0) rfl rfl rfl rfl (by exact sz_119) rfl (by rw [ws32_len]; first | omega | decide | (simp only [ws32_len, ws8_len, Sh.extTo_len, Sh.iwTo_len, Sh.lwTo_len, Sh.sched_len, Sh.K64_len, Sh.addTo_len, List.length_replicate, List.length_set]; first | done | decide | omega)) (ws32_set _ _ _) ?_)
    refine GL.nil ?_
    refine GX.blk ?_
    refine GX.then ?_
    refine GC.reg ?_
    refine GL.val (rv_add rfl rfl (by omega) (by omega)) rfl ?_
    refine GL.val (rv_move rfl) rfl ?_
    refine GL.nil ?_
    exact GX.round (t + 1) (by omega) (by omega) (by repeat (first | exact Sub.nil | refine Sub.cons rfl ?_)) (fun w9 h => by
        exact h)
  · obtain rfl : t = 16 := by omega
    refine GC.exit ?_
    refine GX.then_exit ?_
    refine GX.then_exit ?_
    refine GX.blk_eq ?_
    refine GX.then ?_
    refine GC.seq ?_
    refine GC.seq ?_
    refine GC.reg ?_
    refine GL.val (rv_assign rfl) rfl ?_
    refine GL.nil ?_
    refine GX.then ?_
    refine GC.block ?_
    refine GC.loopK (γ := Nat) [3, 2] [1] (fun g Lk => (5, .int .i64 (g : Int)) :: Lk) (fun g Fk => .cl b3 (ws32 (Sh.extTo (Sh.iwTo blk 16) (g - 16))) 125 :: Fk) (fun g => (16 ≤ g) ∧ (g ≤ 64)) (fun g => 64 - g) (16) rfl rfl ⟨Nat.le_refl _, by omega⟩ (by repeat (first | exact Sub.nil | refine Sub.cons rfl ?_)) (fun w9 h => by
        exact h) (fun t ⟨h1, h2⟩ => ?_)
    skip
    refine GC.seq ?_
    refine GC.seq ?_
    refine GC.reg ?_
    refine GL.val (rv_move rfl) rfl ?_
    refine GL.val (rv_lss rfl rfl) rfl ?_
    refine GL.nil ?_
    refine GX.then ?_
    refine GC.condP rfl (fun c23 => ?_) (fun c23 => ?_)
    · have hlt : t < 64 := by omega
      refine GC.skip ?_
      refine GX.then ?_
      refine GC.seq ?_
      refine GC.block ?_
      refine GC.seq ?_
      refine GC.draw 10 [0, 1] mo_ ?_
      refine GD.pure1 (i := 0) rfl (fun _ _ => rv_move rfl) ?_
      refine GD.pure1 (i := 1) rfl (fun _ _ => rv_sub rfl rfl (by omega) (by omega)) ?_
      refine GD.pure1 (i := 2) rfl (fun _ _ => rv_elemAJ (q := t - 15) (t - 15) as_125 rfl rfl (by omega) (by omega) (by omega)) ?_
      refine GD.pure1 (i := 4) rfl (fun _ _ => rv_move rfl) ?_
      refine GD.pure1 (i := 5) rfl (fun _ _ => rv_sub rfl rfl (by omega) (by omega)) ?_
      refine GD.pure1 (i := 6) rfl (fun _ _ => rv_elemAJ (q := t - 2) (t - 2) as_125 rfl rfl (by omega) (by omega) (by omega)) ?_
      refine GD.read1 (i := 3) rfl (rv_load ag_119 rfl (Hd.cell (k := 0) rfl (ws32_get (by (simp only [ws32_len, ws8_len, Sh.extTo_len, Sh.iwTo_len, Sh.lwTo_len, Sh.sched_len, Sh.K64_len, Sh.addTo_len, List.length_replicate, List.length_set]; first | done | decide | omega))))) ?_
      refine GD.pure1 (i := 8) rfl (fun _ _ => rv_assign rfl) ?_
      refine GD.step (i := 7) (by kernel_rfl) rfl (ot_val (rv_load ag_119 rfl (Hd.cell (k := 0) rfl (ws32_get (by (simp only [ws32_len, ws8_len, Sh.extTo_len, Sh.iwTo_len, Sh.lwTo_len, Sh.sched_len, Sh.K64_len, Sh.addTo_len, List.length_replicate, List.length_set]; first | done | decide | omega))))) rfl ⟨.inr fun _ h => h.pk [0, 1], ?_⟩)
      refine GD.pure1 (i := 9) rfl (fun _ _ => rv_assign rfl) ?_
      refine GD.done (by kernel_rfl) ?_
      refine GX.then ?_
      refine GC.seq ?_
      refine GC.reg ?_
      refine GL.val (rv_move rfl) rfl ?_
      refine GL.step (ot_call hb_94 rfl (callOk fun w hh => rot_c _ 7 (by decide) (by decide) w) rfl fun _ _ => ?_)
      refine GL.val (rv_move rfl) rfl ?_
      refine GL.step (ot_call hb_94 rfl (callOk fun w hh => rot_c _ 18 (by decide) (by decide) w) rfl fun _ _ => ?_)
      refine GL.val (rv_xor32 rfl rfl) rfl ?_
      refine GL.val (rv_move rfl) rfl ?_
      refine GL.val (rv_shr32 (3) rfl rfl (by rfl) (by decide)) rfl ?_
      refine GL.val (rv_xor32 rfl rfl) rfl ?_
      refine GL.val (rv_assign rfl) rfl ?_
      refine GL.nil ?_
      refine GX.then ?_
      refine GC.seq ?_
      refine GC.reg ?_
      refine GL.val (rv_move rfl) rfl ?_
      refine GL.step (ot_call hb_94 rfl (callOk fun w hh => rot_c _ 17 (by decide) (by decide) w) rfl fun _ _ => ?_)
      refine GL.val (rv_move rfl) rfl ?_
      refine GL.step (ot_call hb_94 rfl (callOk fun w hh => rot_c _ 19 (by decide) (by decide) w) rfl fun _ _ => ?_)
      refine GL.val (rv_xor32 rfl rfl) rfl ?_
      refine GL.val (rv_move rfl) rfl ?_
      refine GL.val (rv_shr32 (10) rfl rfl (by rfl) (by decide)) rfl ?_
      refine GL.val (rv_xor32 rfl rfl) rfl ?_
      refine GL.val (rv_assign rfl) rfl ?_
      refine GL.nil ?_
      refine GX.then ?_
      refine GC.draw 15 [0, 1] mo_ ?_
      refine GD.pure1 (i := 0) rfl (fun _ _ => rv_move rfl) ?_
      refine GD.pure1 (i := 1) rfl (fun _ _ => rv_move rfl) ?_
      refine GD.pure1 (i := 2) rfl (fun _ _ => rv_sub rfl rfl (by omega) (by omega)) ?_
      refine GD.pure1 (i := 3) rfl (fun _ _ => rv_elemAJ (q := t - 16) (t - 16) as_125 rfl rfl (by omega) (by omega) (by omega)) ?_
      refine GD.pure1 (i := 5) rfl (fun _ _ => rv_move rfl) ?_
      refine GD.pure1 (i := 7) rfl (fun _ _ => rv_move rfl) ?_
      refine GD.pure1 (i := 8) rfl (fun _ _ => rv_sub rfl rfl (by omega) (by omega)) ?_
      refine GD.pure1 (i := 9) rfl (fun _ _ => rv_elemAJ (q := t - 7) (t - 7) as_125 rfl rfl (by omega) (by omega) (by omega)) ?_
      refine GD.pure1 (i := 12) rfl (fun _ _ => rv_move rfl) ?_
      refine GD.read1 (i := 4) rfl (rv_load ag_119 rfl (Hd.cell (k := 0) rfl (ws32_get (by (simp only [ws32_len, ws8_len, Sh.extTo_len, Sh.iwTo_len, Sh.lwTo_len, Sh.sched_len, Sh.K64_len, Sh.addTo_len, List.length_replicate, List.length_set]; first | done | decide | omega))))) ?_
      refine GD.pure1 (i := 6) rfl (fun _ _ => rv_add32 rfl rfl) ?_
      refine GD.step (i := 10) (by kernel_rfl) rfl (ot_val (rv_load ag_119 rfl (Hd.cell (k := 0) rfl (ws32_get (by (simp only [ws32_len, ws8_len, Sh.extTo_len, Sh.iwTo_len, Sh.lwTo_len, Sh.sched_len, Sh.K64_len, Sh.addTo_len, List.length_replicate, List.length_set]; first | done | decide | omega))))) rfl ⟨.inr fun _ h => h.pk [0, 1], ?_⟩)
      refine GD.pure1 (i := 11) rfl (fun _ _ => rv_add32 rfl rfl) ?_
      refine GD.pure1 (i := 13) rfl (fun _ _ => rv_add32 rfl rfl) ?_
      refine GD.pure1 (i := 14) rfl (fun _ _ => rv_elemAJ (q := t) (t) as_125 rfl rfl (by rfl) (by omega) (by omega)) ?_
      refine GD.step (i := 15) (by kernel_rfl) rfl (ot_store1 (k := 0) rfl rfl rfl rfl (by exact sz_119) rfl (by rw [ws32_len]; first | omega | decide | (simp only [ws32_len, ws8_len, Sh.extTo_len, Sh.iwTo_len, Sh.lwTo_len, Sh.sched_len, Sh.K64_len, Sh.addTo_len, List.length_replicate, List.length_set]; first | done | decide | omega)) (ws32_set _ _ _) ⟨.inl rfl, ?_⟩)
      refine GD.done (by kernel_rfl) ?_
      refine GX.blk ?_
      refine GX.then ?_
      refine GC.reg ?_
      refine GL.val (rv_move rfl) rfl ?_
      refine GL.val (rv_add rfl rfl (by omega) (by omega)) rfl ?_
      refine GL.val (rv_assign rfl) rfl ?_
      refine GL.nil ?_
      exact GX.round (t + 1) (by omega) ⟨by omega, by omega⟩ (by repeat (first | exact Sub.nil | refine Sub.cons rfl ?_)) (fun w9 h => by
          rw [Sh.ext_step _ t h1]
          exact h)
    · obtain rfl : t = 64 := by omega
      rw [show Sh.extTo (Sh.iwTo blk 16) (64 - 16) = Sh.sched blk from by unfold Sh.sched; rfl]
      refine GC.exit ?_
      refine GX.then_exit ?_
      refine GX.then_exit ?_
      refine GX.blk_eq ?_
      refine GX.then ?_
      refine GC.seq ?_
      refine GC.reg ?_
      refine GL.val (rv_loadAL ag_125 rfl (by exact Hd.cellsAll (k := 0) rfl) (by exact sz_125) (by ((simp only [ws32_len, ws8_len, Sh.extTo_len, Sh.iwTo_len, Sh.lwTo_len, Sh.sched_len, Sh.K64_len, Sh.addTo_len, List.length_replicate, List.length_set]; first | done | decide | omega)))) rfl ?_
      refine GL.step (ot_storeA (k := 1) rfl rfl rfl rfl (by exact sz_125) (by ((simp only [ws32_len, ws8_len, Sh.extTo_len, Sh.iwTo_len, Sh.lwTo_len, Sh.sched_len, Sh.K64_len, Sh.addTo_len, List.length_replicate, List.length_set]; first | done | decide | omega))) (by (decide)) (by exact ws32_one _) ?_)
      refine GL.nil ?_
      refine GX.then ?_
      refine GC.ret ?_
      refine GX.ret1 rfl (RR.cellL ag_125 rfl (by exact Hd.cellsAll (k := 1) rfl) (by exact sz_125) (by ((simp only [ws32_len, ws8_len, Sh.extTo_len, Sh.iwTo_len, Sh.lwTo_len, Sh.sched_len, Sh.K64_len, Sh.addTo_len, List.length_replicate, List.length_set]; first | done | decide | omega)))) ?_
      exact fun w9 h => ⟨(), rfl, by
          have h := h.sel [] rfl rfl
          exact h, trivial⟩
set_option maxRecDepth 100000 in
set_option maxHeartbeats 1000000 in
theorem words_c (b o n c : Nat) (blk : Sh.B) (w : World) (hC : Cells w b o (byts blk)) (hl : blk.length = 64) (hn : n = 64) :
    Calls Try.prog 95 [.slice (some ⟨b, o, none⟩) n c].toArray w fun e w' => ∃ _g : Unit, e = .returned (.agg (ws32 (Sh.sched blk)).toArray) ∧ St noB w w' [] ∧ True := by
  refine GC.calls Try.func95 rfl rfl (St.begin _) ?_
  subst hn
  refine GC.seq ?_
  refine GC.reg ?_
  refine GL.step (ot_alloc (zs := ws32 (List.replicate 64 0)) zb_125 (rfl) rfl fun b2 => ?_)
  refine GL.nil ?_
  refine GX.then ?_
  refine GC.seq ?_
  refine GC.reg ?_
  refine GL.step (ot_alloc (zs := ws32 (List.replicate 64 0)) zb_125 (rfl) rfl fun b3 => ?_)
  refine GL.nil ?_
  refine GX.then ?_
  refine GC.seq ?_
  refine GC.seq ?_
  refine GC.reg ?_
  refine GL.val (rv_assign rfl) rfl ?_
  refine GL.nil ?_
  refine GX.then ?_
  refine GC.block ?_
  refine GC.loopK (γ := Nat) [3, 2, 0] [1] (fun g Lk => (4, .int .i64 (g : Int)) :: Lk) (fun g Fk => .cl b3 (ws32 (Sh.lwTo blk g)) 125 :: Fk) (fun g => g ≤ 64) (fun g => 64 - g) (0) rfl rfl (Nat.zero_le _) (by repeat (first | exact Sub.nil | refine Sub.cons rfl ?_)) (fun w9 h => by
      exact h) (fun i hi => ?_)
  skip
  refine GC.seq ?_
  refine GC.seq ?_
  refine GC.reg ?_
  refine GL.val (rv_move rfl) rfl ?_
  refine GL.val (rv_lss rfl rfl) rfl ?_
  refine GL.nil ?_
  refine GX.then ?_
  refine GC.condP rfl (fun c9 => ?_) (fun c9 => ?_)
  · have hlt : i < 64 := by omega
    refine GC.skip ?_
    refine GX.then ?_
    refine GC.seq ?_
    refine GC.block ?_
    refine GC.draw 14 [0, 1] mo_ ?_
    refine GD.pure1 (i := 0) rfl (fun _ _ => rv_move rfl) ?_
    refine GD.pure1 (i := 1) rfl (fun _ _ => rv_quoN (m' := 4) rfl rfl (by omega) (by decide)) ?_
    refine GD.pure1 (i := 2) rfl (fun _ _ => rv_move rfl) ?_
    refine GD.pure1 (i := 3) rfl (fun _ _ => rv_quoN (m' := 4) rfl rfl (by omega) (by decide)) ?_
    refine GD.pure1 (i := 4) rfl (fun _ _ => rv_elemAJ (q := i / 4) (i / 4) as_125 rfl rfl (by rfl) (by omega) (by omega)) ?_
    refine GD.pure1 (i := 7) rfl (fun _ _ => rv_move rfl) ?_
    refine GD.pure1 (i := 8) rfl (fun _ _ => rv_move rfl) ?_
    refine GD.pure1 (i := 9) rfl (fun _ _ => rv_elemJ (q := o + i) (i) es_27 rfl rfl (by rfl) (by omega) (by omega)) ?_
    refine GD.read1 (i := 5) rfl (rv_load ag_119 rfl (Hd.cell (k := 0) rfl (ws32_get (by (simp only [ws32_len, ws8_len, Sh.extTo_len, Sh.iwTo_len, Sh.lwTo_len, Sh.sched_len, Sh.K64_len, Sh.addTo_len, List.length_replicate, List.length_set]; first | done | decide | omega))))) ?_
    refine GD.pure1 (i := 6) rfl (fun _ _ => rv_mul32 (b := 256) rfl rfl) ?_
    refine GD.step (i := 10) (by kernel_rfl) rfl (ot_val (rv_load ag_5 rfl (Hd.cell0 (Sh.byC hC (j := i) (by omega)) (fun h => h))) rfl ⟨.inr fun _ h => h.pk [0, 1], ?_⟩)
    refine GD.pure1 (i := 11) rfl (fun _ _ => rv_c8_32 Try.underlying5 Try.underlying119 rfl) ?_
    refine GD.pure1 (i := 12) rfl (fun _ _ => rv_add32 rfl rfl) ?_
    refine GD.pure1 (i := 13) rfl (fun _ _ => rv_elemAJ (q := i / 4) (i / 4) as_125 rfl rfl (by rfl) (by omega) (by omega)) ?_
    refine GD.step (i := 14) (by kernel_rfl) rfl (ot_store1 (k := 0) rfl rfl rfl rfl (by exact sz_119) rfl (by rw [ws32_len]; first | omega | decide | (simp only [ws32_len, ws8_len, Sh.extTo_len, Sh.iwTo_len, Sh.lwTo_len, Sh.sched_len, Sh.K64_len, Sh.addTo_len, List.length_replicate, List.length_set]; first | done | decide | omega)) (ws32_set _ _ _) ⟨.inl rfl, ?_⟩)
    refine GD.done (by kernel_rfl) ?_
    refine GX.blk ?_
    refine GX.then ?_
    refine GC.reg ?_
    refine GL.val (rv_move rfl) rfl ?_
    refine GL.val (rv_add rfl rfl (by omega) (by omega)) rfl ?_
    refine GL.val (rv_assign rfl) rfl ?_
    refine GL.nil ?_
    exact GX.round (i + 1) (by omega) (by omega) (by repeat (first | exact Sub.nil | refine Sub.cons rfl ?_)) (fun w9 h => by
        exact h)
  · obtain rfl : i = 64 := by omega
    refine GC.exit ?_
    refine GX.then_exit ?_
    refine GX.then_exit ?_
    refine GX.blk_eq ?_
    refine GX.then ?_
    refine GC.seq ?_
    refine GC.seq ?_
    refine GC.reg ?_
    refine GL.val (rv_assign rfl) rfl ?_
    refine GL.nil ?_
    refine GX.then ?_
    refine GC.block ?_
    refine GC.loopK (γ := Nat) [3, 2] [1] (fun g Lk => (5, .int .i64 (g : Int)) :: Lk) (fun g Fk => .cl b3 (ws32 (Sh.extTo (Sh.iwTo blk 16) (g - 16))) 125 :: Fk) (fun g => (16 ≤ g) ∧ (g ≤ 64)) (fun g => 64 - g) (16) rfl rfl ⟨Nat.le_refl _, by omega⟩ (by repeat (first | exact Sub.nil | refine Sub.cons rfl ?_)) (fun w9 h => by
        rw [show Sh.lwTo blk 64 = Sh.iwTo blk 16 from Sh.lw_iw blk 16 (by omega)] at h
        exact h) (fun t ⟨h1, h2⟩ => ?_)
    skip
    refine GC.seq ?_
    refine GC.seq ?_
    refine GC.reg ?_
    refine GL.val (rv_move rfl) rfl ?_
    refine GL.val (rv_lss rfl rfl) rfl ?_
    refine GL.nil ?_
    refine GX.then ?_
    refine GC.condP rfl (fun c27 => ?_) (fun c27 => ?_)
    · have hlt : t < 64 := by omega
      refine GC.skip ?_
      refine GX.then ?_
      refine GC.seq ?_
      refine GC.block ?_
      refine GC.seq ?_
      refine GC.draw 18 [0, 1] mo_ ?_
      refine GD.pure1 (i := 0) rfl (fun _ _ => rv_move rfl) ?_
      refine GD.pure1 (i := 1) rfl (fun _ _ => rv_sub rfl rfl (by omega) (by omega)) ?_
      refine GD.pure1 (i := 2) rfl (fun _ _ => rv_elemAJ (q := t - 15) (t - 15) as_125 rfl rfl (by omega) (by omega) (by omega)) ?_
      refine GD.pure1 (i := 5) rfl (fun _ _ => rv_move rfl) ?_
      refine GD.pure1 (i := 6) rfl (fun _ _ => rv_sub rfl rfl (by omega) (by omega)) ?_
      refine GD.pure1 (i := 7) rfl (fun _ _ => rv_elemAJ (q := t - 15) (t - 15) as_125 rfl rfl (by omega) (by omega) (by omega)) ?_
      refine GD.pure1 (i := 11) rfl (fun _ _ => rv_move rfl) ?_
      refine GD.pure1 (i := 12) rfl (fun _ _ => rv_sub rfl rfl (by omega) (by omega)) ?_
      refine GD.pure1 (i := 13) rfl (fun _ _ => rv_elemAJ (q := t - 15) (t - 15) as_125 rfl rfl (by omega) (by omega) (by omega)) ?_
      refine GD.read1 (i := 3) rfl (rv_load ag_119 rfl (Hd.cell (k := 0) rfl (ws32_get (by (simp only [ws32_len, ws8_len, Sh.extTo_len, Sh.iwTo_len, Sh.lwTo_len, Sh.sched_len, Sh.K64_len, Sh.addTo_len, List.length_replicate, List.length_set]; first | done | decide | omega))))) ?_
      refine GD.read1 (i := 8) rfl (rv_load ag_119 rfl (Hd.cell (k := 0) rfl (ws32_get (by (simp only [ws32_len, ws8_len, Sh.extTo_len, Sh.iwTo_len, Sh.lwTo_len, Sh.sched_len, Sh.K64_len, Sh.addTo_len, List.length_replicate, List.length_set]; first | done | decide | omega))))) ?_
      refine GD.read1 (i := 14) rfl (rv_load ag_119 rfl (Hd.cell (k := 0) rfl (ws32_get (by (simp only [ws32_len, ws8_len, Sh.extTo_len, Sh.iwTo_len, Sh.lwTo_len, Sh.sched_len, Sh.K64_len, Sh.addTo_len, List.length_replicate, List.length_set]; first | done | decide | omega))))) ?_
      refine GD.pure1 (i := 15) rfl (fun _ _ => rv_shr32 (3) rfl rfl (by rfl) (by decide)) ?_
      refine GD.step (i := 4) (by kernel_rfl) rfl (ot_call hb_97 rfl (callOk fun w hh => turn_c _ 7 (by decide) (by decide) w) rfl fun _ _ => ⟨.inr fun _ h => h.pk [0, 1], ?_⟩)
      refine GD.step (i := 9) (by kernel_rfl) rfl (ot_call hb_97 rfl (callOk fun w hh => turn_c _ 18 (by decide) (by decide) w) rfl fun _ _ => ⟨.inr fun _ h => h.pk [0, 1], ?_⟩)
      refine GD.pure1 (i := 10) rfl (fun _ _ => rv_xor32 rfl rfl) ?_
      refine GD.pure1 (i := 16) rfl (fun _ _ => rv_xor32 rfl rfl) ?_
      refine GD.pure1 (i := 17) rfl (fun _ _ => rv_assign rfl) ?_
      refine GD.done (by kernel_rfl) ?_
      refine GX.then ?_
      refine GC.seq ?_
      refine GC.draw 18 [0, 1] mo_ ?_
      refine GD.pure1 (i := 0) rfl (fun _ _ => rv_move rfl) ?_
      refine GD.pure1 (i := 1) rfl (fun _ _ => rv_sub rfl rfl (by omega) (by omega)) ?_
      refine GD.pure1 (i := 2) rfl (fun _ _ => rv_elemAJ (q := t - 2) (t - 2) as_125 rfl rfl (by omega) (by omega) (by omega)) ?_
      refine GD.pure1 (i := 5) rfl (fun _ _ => rv_move rfl) ?_
      refine GD.pure1 (i := 6) rfl (fun _ _ => rv_sub rfl rfl (by omega) (by omega)) ?_
      refine GD.pure1 (i := 7) rfl (fun _ _ => rv_elemAJ (q := t - 2) (t - 2) as_125 rfl rfl (by omega) (by omega) (by omega)) ?_
      refine GD.pure1 (i := 11) rfl (fun _ _ => rv_move rfl) ?_
      refine GD.pure1 (i := 12) rfl (fun _ _ => rv_sub rfl rfl (by omega) (by omega)) ?_
      refine GD.pure1 (i := 13) rfl (fun _ _ => rv_elemAJ (q := t - 2) (t - 2) as_125 rfl rfl (by omega) (by omega) (by omega)) ?_
      refine GD.read1 (i := 3) rfl (rv_load ag_119 rfl (Hd.cell (k := 0) rfl (ws32_get (by (simp only [ws32_len, ws8_len, Sh.extTo_len, Sh.iwTo_len, Sh.lwTo_len, Sh.sched_len, Sh.K64_len, Sh.addTo_len, List.length_replicate, List.length_set]; first | done | decide | omega))))) ?_
      refine GD.read1 (i := 8) rfl (rv_load ag_119 rfl (Hd.cell (k := 0) rfl (ws32_get (by (simp only [ws32_len, ws8_len, Sh.extTo_len, Sh.iwTo_len, Sh.lwTo_len, Sh.sched_len, Sh.K64_len, Sh.addTo_len, List.length_replicate, List.length_set]; first | done | decide | omega))))) ?_
      refine GD.read1 (i := 14) rfl (rv_load ag_119 rfl (Hd.cell (k := 0) rfl (ws32_get (by (simp only [ws32_len, ws8_len, Sh.extTo_len, Sh.iwTo_len, Sh.lwTo_len, Sh.sched_len, Sh.K64_len, Sh.addTo_len, List.length_replicate, List.length_set]; first | done | decide | omega))))) ?_
      refine GD.pure1 (i := 15) rfl (fun _ _ => rv_shr32 (10) rfl rfl (by rfl) (by decide)) ?_
      refine GD.step (i := 4) (by kernel_rfl) rfl (ot_call hb_97 rfl (callOk fun w hh => turn_c _ 17 (by decide) (by decide) w) rfl fun _ _ => ⟨.inr fun _ h => h.pk [0, 1], ?_⟩)
      refine GD.step (i := 9) (by kernel_rfl) rfl (ot_call hb_97 rfl (callOk fun w hh => turn_c _ 19 (by decide) (by decide) w) rfl fun _ _ => ⟨.inr fun _ h => h.pk [0, 1], ?_⟩)
      refine GD.pure1 (i := 10) rfl (fun _ _ => rv_xor32 rfl rfl) ?_
      refine GD.pure1 (i := 16) rfl (fun _ _ => rv_xor32 rfl rfl) ?_
      refine GD.pure1 (i := 17) rfl (fun _ _ => rv_assign rfl) ?_
      refine GD.done (by kernel_rfl) ?_
      refine GX.then ?_
      refine GC.draw 15 [0, 1] mo_ ?_
      refine GD.pure1 (i := 0) rfl (fun _ _ => rv_move rfl) ?_
      refine GD.pure1 (i := 1) rfl (fun _ _ => rv_move rfl) ?_
      refine GD.pure1 (i := 2) rfl (fun _ _ => rv_sub rfl rfl (by omega) (by omega)) ?_
      refine GD.pure1 (i := 3) rfl (fun _ _ => rv_elemAJ (q := t - 16) (t - 16) as_125 rfl rfl (by omega) (by omega) (by omega)) ?_
      refine GD.pure1 (i := 5) rfl (fun _ _ => rv_move rfl) ?_
      refine GD.pure1 (i := 7) rfl (fun _ _ => rv_move rfl) ?_
      refine GD.pure1 (i := 8) rfl (fun _ _ => rv_sub rfl rfl (by omega) (by omega)) ?_
      refine GD.pure1 (i := 9) rfl (fun _ _ => rv_elemAJ (q := t - 7) (t - 7) as_125 rfl rfl (by omega) (by omega) (by omega)) ?_
      refine GD.pure1 (i := 12) rfl (fun _ _ => rv_move rfl) ?_
      refine GD.read1 (i := 4) rfl (rv_load ag_119 rfl (Hd.cell (k := 0) rfl (ws32_get (by (simp only [ws32_len, ws8_len, Sh.extTo_len, Sh.iwTo_len, Sh.lwTo_len, Sh.sched_len, Sh.K64_len, Sh.addTo_len, List.length_replicate, List.length_set]; first | done | decide | omega))))) ?_
      refine GD.pure1 (i := 6) rfl (fun _ _ => rv_add32 rfl rfl) ?_
      refine GD.step (i := 10) (by kernel_rfl) rfl (ot_val (rv_load ag_119 rfl (Hd.cell (k := 0) rfl (ws32_get (by (simp only [ws32_len, ws8_len, Sh.extTo_len, Sh.iwTo_len, Sh.lwTo_len, Sh.sched_len, Sh.K64_len, Sh.addTo_len, List.length_replicate, List.length_set]; first | done | decide | omega))))) rfl ⟨.inr fun _ h => h.pk [0, 1], ?_⟩)
      refine GD.pure1 (i := 11) rfl (fun _ _ => rv_add32 rfl rfl) ?_
      refine GD.pure1 (i := 13) rfl (fun _ _ => rv_add32 rfl rfl) ?_
      refine GD.pure1 (i := 14) rfl (fun _ _ => rv_elemAJ (q := t) (t) as_125 rfl rfl (by rfl) (by omega) (by omega)) ?_
      refine GD.step (i := 15) (by kernel_rfl) rfl (ot_store1 (k := 0) rfl rfl rfl rfl (by exact sz_119) rfl (by rw [ws32_len]; first | omega | decide | (simp only [ws32_len, ws8_len, Sh.extTo_len, Sh.iwTo_len, Sh.lwTo_len, Sh.sched_len, Sh.K64_len, Sh.addTo_len, List.length_replicate, List.length_set]; first | done | decide | omega)) (ws32_set _ _ _) ⟨.inl rfl, ?_⟩)
      refine GD.done (by kernel_rfl) ?_
      refine GX.blk ?_
      refine GX.then ?_
      refine GC.reg ?_
      refine GL.val (rv_move rfl) rfl ?_
      refine GL.val (rv_add rfl rfl (by omega) (by omega)) rfl ?_
      refine GL.val (rv_assign rfl) rfl ?_
      refine GL.nil ?_
      exact GX.round (t + 1) (by omega) ⟨by omega, by omega⟩ (by repeat (first | exact Sub.nil | refine Sub.cons rfl ?_)) (fun w9 h => by
          rw [Sh.ext_step _ t h1]
          exact h)
    · obtain rfl : t = 64 := by omega
      rw [show Sh.extTo (Sh.iwTo blk 16) (64 - 16) = Sh.sched blk from by unfold Sh.sched; rfl]
      refine GC.exit ?_
      refine GX.then_exit ?_
      refine GX.then_exit ?_
      refine GX.blk_eq ?_
      refine GX.then ?_
      refine GC.seq ?_
      refine GC.reg ?_
      refine GL.val (rv_loadAL ag_125 rfl (by exact Hd.cellsAll (k := 0) rfl) (by exact sz_125) (by ((simp only [ws32_len, ws8_len, Sh.extTo_len, Sh.iwTo_len, Sh.lwTo_len, Sh.sched_len, Sh.K64_len, Sh.addTo_len, List.length_replicate, List.length_set]; first | done | decide | omega)))) rfl ?_
      refine GL.step (ot_storeA (k := 1) rfl rfl rfl rfl (by exact sz_125) (by ((simp only [ws32_len, ws8_len, Sh.extTo_len, Sh.iwTo_len, Sh.lwTo_len, Sh.sched_len, Sh.K64_len, Sh.addTo_len, List.length_replicate, List.length_set]; first | done | decide | omega))) (by (decide)) (by exact ws32_one _) ?_)
      refine GL.nil ?_
      refine GX.then ?_
      refine GC.ret ?_
      refine GX.ret1 rfl (RR.cellL ag_125 rfl (by exact Hd.cellsAll (k := 1) rfl) (by exact sz_125) (by ((simp only [ws32_len, ws8_len, Sh.extTo_len, Sh.iwTo_len, Sh.lwTo_len, Sh.sched_len, Sh.K64_len, Sh.addTo_len, List.length_replicate, List.length_set]; first | done | decide | omega)))) ?_
      exact fun w9 h => ⟨(), rfl, by
          have h := h.sel [] rfl rfl
          exact h, trivial⟩
set_option maxRecDepth 100000 in
set_option maxHeartbeats 1000000 in
theorem block_c (b o n c : Nat) (hw : Sh.W) (blk : Sh.B) (w : World) (hC : Cells w b o (byts blk)) (hl : blk.length = 64) (hn : n = 64) (h8 : hw.length = 8) :
    Calls Try.prog 90 [.agg (ws32 hw).toArray, .slice (some ⟨b, o, none⟩) n c].toArray w fun e w' => ∃ _g : Unit, e = .returned (.agg (ws32 (Sh.compress hw blk)).toArray) ∧ St noB w w' [] ∧ True := by
  refine GC.calls Try.func90 rfl rfl (St.begin _) ?_
  refine GC.seq ?_
  refine GC.reg ?_
  refine GL.step (ot_box rfl rfl rfl fun b2 => ?_)
  refine GL.step (ot_alloc (zs := ws32 (List.replicate 8 0)) zb_120 (rfl) rfl fun b4 => ?_)
  refine GL.nil ?_
  refine GX.then ?_
  refine GC.seq ?_
  refine GC.reg ?_
  refine GL.val (rv_move rfl) rfl ?_
  refine GL.step (ot_call hb_95 rfl (callOk fun w hh => words_c b o n c blk w (Hd.cells0 hC (fun h => h) w hh) hl hn) rfl fun _ _ => ?_)
  refine GL.step (ot_alloc (zs := ws32 (List.replicate 64 0)) zb_125 (rfl) rfl fun b5 => ?_)
  refine GL.step (ot_storeA (k := 0) rfl rfl rfl rfl (by exact sz_125) (by ((simp only [ws32_len, ws8_len, Sh.extTo_len, Sh.iwTo_len, Sh.lwTo_len, Sh.sched_len, Sh.K64_len, Sh.addTo_len, Sh.compress_len, h8, Sh.rounds_len _ _ h8, List.length_replicate, List.length_set]; first | done | decide | omega))) (by (decide)) (by exact ws32_one _) ?_)
  refine GL.nil ?_
  refine GX.then ?_
  refine GC.seq ?_
  refine GC.reg ?_
  refine GL.step (ot_call hb_96 rfl (callOk fun w hh => round_c w) rfl fun _ _ => ?_)
  refine GL.step (ot_alloc (zs := ws32 (List.replicate 64 0)) zb_125 (rfl) rfl fun b6 => ?_)
  refine GL.step (ot_storeA (k := 0) rfl rfl rfl rfl (by exact sz_125) (by (decide)) (by (decide)) (by exact ws32_one _) ?_)
  refine GL.nil ?_
  refine GX.then ?_
  refine GC.seq ?_
  refine GC.reg ?_
  refine GL.val (rv_loadAL ag_120 rfl (by exact Hd.cellsAll (k := 3) rfl) (by exact sz_120) (by ((simp only [ws32_len, ws8_len, Sh.extTo_len, Sh.iwTo_len, Sh.lwTo_len, Sh.sched_len, Sh.K64_len, Sh.addTo_len, Sh.compress_len, h8, Sh.rounds_len _ _ h8, List.length_replicate, List.length_set]; first | done | decide | omega)))) rfl ?_
  refine GL.step (ot_alloc (zs := ws32 (List.replicate 8 0)) zb_120 (rfl) rfl fun b7 => ?_)
  refine GL.step (ot_storeA (k := 0) rfl rfl rfl rfl (by exact sz_120) (by ((simp only [ws32_len, ws8_len, Sh.extTo_len, Sh.iwTo_len, Sh.lwTo_len, Sh.sched_len, Sh.K64_len, Sh.addTo_len, Sh.compress_len, h8, Sh.rounds_len _ _ h8, List.length_replicate, List.length_set]; first | done | decide | omega))) (by (decide)) (by exact ws32_one _) ?_)
  refine GL.nil ?_
  refine GX.then ?_
  refine GC.seq ?_
  refine GC.seq ?_
  refine GC.reg ?_
  refine GL.val (rv_assign rfl) rfl ?_
  refine GL.nil ?_
  refine GX.then ?_
  refine GC.block ?_
  refine GC.loopK (γ := Nat) [7, 6, 5, 4, 2] [4, 3, 2, 1] (fun g Lk => (8, .int .i64 (g : Int)) :: Lk) (fun g Fk => .cl b7 (ws32 (Sh.rounds (Sh.sched blk) hw g)) 120 :: Fk) (fun g => g ≤ 64) (fun g => 64 - g) (0) rfl rfl (Nat.zero_le _) (by repeat (first | exact Sub.nil | refine Sub.cons rfl ?_)) (fun w9 h => by
      exact h) (fun t ht => ?_)
  skip
  refine GC.seq ?_
  refine GC.seq ?_
  refine GC.reg ?_
  refine GL.val (rv_move rfl) rfl ?_
  refine GL.val (rv_lss rfl rfl) rfl ?_
  refine GL.nil ?_
  refine GX.then ?_
  refine GC.condP rfl (fun c20 => ?_) (fun c20 => ?_)
  · have hlt : t < 64 := by omega
    obtain ⟨a0, a1, a2, a3, a4, a5, a6, a7, hv⟩ := Sh.eight _ (Sh.rounds_len (Sh.sched blk) hw h8 t)
    rw [hv]
    refine GC.skip ?_
    refine GX.then ?_
    refine GC.seq ?_
    refine GC.block ?_
    refine GC.seq ?_
    refine GC.draw 12 [0, 1, 2, 3, 4] mo_ ?_
    refine GD.pure1 (i := 0) rfl (fun _ _ => rv_elemAJ (q := 4) (4) as_120 rfl rfl (by rfl) (by omega) (by rfl)) ?_
    refine GD.pure1 (i := 3) rfl (fun _ _ => rv_elemAJ (q := 4) (4) as_120 rfl rfl (by rfl) (by omega) (by rfl)) ?_
    refine GD.pure1 (i := 7) rfl (fun _ _ => rv_elemAJ (q := 4) (4) as_120 rfl rfl (by rfl) (by omega) (by rfl)) ?_
    refine GD.read1 (i := 1) rfl (rv_load ag_119 rfl (by exact Hd.cell (k := 0) rfl rfl)) ?_
    refine GD.read1 (i := 4) rfl (rv_load ag_119 rfl (by exact Hd.cell (k := 0) rfl rfl)) ?_
    refine GD.read1 (i := 8) rfl (rv_load ag_119 rfl (by exact Hd.cell (k := 0) rfl rfl)) ?_
    refine GD.step (i := 2) (by kernel_rfl) rfl (ot_call hb_97 rfl (callOk fun w hh => turn_c _ 6 (by decide) (by decide) w) rfl fun _ _ => ⟨.inr fun _ h => h.pk [0, 1, 2, 3, 4], ?_⟩)
    refine GD.step (i := 5) (by kernel_rfl) rfl (ot_call hb_97 rfl (callOk fun w hh => turn_c _ 11 (by decide) (by decide) w) rfl fun _ _ => ⟨.inr fun _ h => h.pk [0, 1, 2, 3, 4], ?_⟩)
    refine GD.pure1 (i := 6) rfl (fun _ _ => rv_xor32 rfl rfl) ?_
    refine GD.step (i := 9) (by kernel_rfl) rfl (ot_call hb_97 rfl (callOk fun w hh => turn_c _ 25 (by decide) (by decide) w) rfl fun _ _ => ⟨.inr fun _ h => h.pk [0, 1, 2, 3, 4], ?_⟩)
    refine GD.pure1 (i := 10) rfl (fun _ _ => rv_xor32 rfl rfl) ?_
    refine GD.pure1 (i := 11) rfl (fun _ _ => rv_assign rfl) ?_
    refine GD.done (by kernel_rfl) ?_
    refine GX.then ?_
    refine GC.seq ?_
    refine GC.reg ?_
    refine GL.val (rv_elemAJ (q := 4) (4) as_120 rfl rfl (by rfl) (by omega) (by rfl)) rfl ?_
    refine GL.val (rv_load ag_119 rfl (by exact Hd.cell (k := 0) rfl rfl)) rfl ?_
    refine GL.val (rv_elemAJ (q := 5) (5) as_120 rfl rfl (by rfl) (by omega) (by rfl)) rfl ?_
    refine GL.val (rv_load ag_119 rfl (by exact Hd.cell (k := 0) rfl rfl)) rfl ?_
    refine GL.val (rv_and32 rfl rfl) rfl ?_
    refine GL.val (rv_elemAJ (q := 4) (4) as_120 rfl rfl (by rfl) (by omega) (by rfl)) rfl ?_
    refine GL.val (rv_load ag_119 rfl (by exact Hd.cell (k := 0) rfl rfl)) rfl ?_
    refine GL.val (rv_xor32 (b := 4294967295) rfl rfl) rfl ?_
    refine GL.val (rv_elemAJ (q := 6) (6) as_120 rfl rfl (by rfl) (by omega) (by rfl)) rfl ?_
    refine GL.val (rv_load ag_119 rfl (by exact Hd.cell (k := 0) rfl rfl)) rfl ?_
    refine GL.val (rv_and32 rfl rfl) rfl ?_
    refine GL.val (rv_xor32 rfl rfl) rfl ?_
    refine GL.val (rv_assign rfl) rfl ?_
    refine GL.nil ?_
    refine GX.then ?_
    refine GC.seq ?_
    refine GC.draw 15 [0, 1, 2, 3, 4] mo_ ?_
    refine GD.pure1 (i := 0) rfl (fun _ _ => rv_elemAJ (q := 7) (7) as_120 rfl rfl (by rfl) (by omega) (by rfl)) ?_
    refine GD.pure1 (i := 2) rfl (fun _ _ => rv_move rfl) ?_
    refine GD.pure1 (i := 4) rfl (fun _ _ => rv_move rfl) ?_
    refine GD.pure1 (i := 6) rfl (fun _ _ => rv_move rfl) ?_
    refine GD.pure1 (i := 7) rfl (fun _ _ => rv_elemAJ (q := t) (t) as_125 rfl rfl (by rfl) (by omega) (by omega)) ?_
    refine GD.pure1 (i := 10) rfl (fun _ _ => rv_move rfl) ?_
    refine GD.pure1 (i := 11) rfl (fun _ _ => rv_elemAJ (q := t) (t) as_125 rfl rfl (by rfl) (by omega) (by omega)) ?_
    refine GD.read1 (i := 1) rfl (rv_load ag_119 rfl (by exact Hd.cell (k := 0) rfl rfl)) ?_
    refine GD.pure1 (i := 3) rfl (fun _ _ => rv_add32 rfl rfl) ?_
    refine GD.pure1 (i := 5) rfl (fun _ _ => rv_add32 rfl rfl) ?_
    refine GD.read1 (i := 8) rfl (rv_load ag_119 rfl (Hd.cell (k := 1) rfl (ws32_get (by (simp only [ws32_len, ws8_len, Sh.extTo_len, Sh.iwTo_len, Sh.lwTo_len, Sh.sched_len, Sh.K64_len, Sh.addTo_len, Sh.compress_len, h8, Sh.rounds_len _ _ h8, List.length_replicate, List.length_set]; first | done | decide | omega))))) ?_
    refine GD.pure1 (i := 9) rfl (fun _ _ => rv_add32 rfl rfl) ?_
    refine GD.step (i := 12) (by kernel_rfl) rfl (ot_val (rv_load ag_119 rfl (Hd.cell (k := 2) rfl (ws32_get (by (simp only [ws32_len, ws8_len, Sh.extTo_len, Sh.iwTo_len, Sh.lwTo_len, Sh.sched_len, Sh.K64_len, Sh.addTo_len, Sh.compress_len, h8, Sh.rounds_len _ _ h8, List.length_replicate, List.length_set]; first | done | decide | omega))))) rfl ⟨.inr fun _ h => h.pk [0, 1, 2, 3, 4], ?_⟩)
    refine GD.pure1 (i := 13) rfl (fun _ _ => rv_add32 rfl rfl) ?_
    refine GD.pure1 (i := 14) rfl (fun _ _ => rv_assign rfl) ?_
    refine GD.done (by kernel_rfl) ?_
    refine GX.then ?_
    refine GC.seq ?_
    refine GC.draw 12 [0, 1, 2, 3, 4] mo_ ?_
    refine GD.pure1 (i := 0) rfl (fun _ _ => rv_elemAJ (q := 0) (0) as_120 rfl rfl (by rfl) (by omega) (by rfl)) ?_
    refine GD.pure1 (i := 3) rfl (fun _ _ => rv_elemAJ (q := 0) (0) as_120 rfl rfl (by rfl) (by omega) (by rfl)) ?_
    refine GD.pure1 (i := 7) rfl (fun _ _ => rv_elemAJ (q := 0) (0) as_120 rfl rfl (by rfl) (by omega) (by rfl)) ?_
    refine GD.read1 (i := 1) rfl (rv_load ag_119 rfl (by exact Hd.cell (k := 0) rfl rfl)) ?_
    refine GD.read1 (i := 4) rfl (rv_load ag_119 rfl (by exact Hd.cell (k := 0) rfl rfl)) ?_
    refine GD.read1 (i := 8) rfl (rv_load ag_119 rfl (by exact Hd.cell (k := 0) rfl rfl)) ?_
    refine GD.step (i := 2) (by kernel_rfl) rfl (ot_call hb_97 rfl (callOk fun w hh => turn_c _ 2 (by decide) (by decide) w) rfl fun _ _ => ⟨.inr fun _ h => h.pk [0, 1, 2, 3, 4], ?_⟩)
    refine GD.step (i := 5) (by kernel_rfl) rfl (ot_call hb_97 rfl (callOk fun w hh => turn_c _ 13 (by decide) (by decide) w) rfl fun _ _ => ⟨.inr fun _ h => h.pk [0, 1, 2, 3, 4], ?_⟩)
    refine GD.pure1 (i := 6) rfl (fun _ _ => rv_xor32 rfl rfl) ?_
    refine GD.step (i := 9) (by kernel_rfl) rfl (ot_call hb_97 rfl (callOk fun w hh => turn_c _ 22 (by decide) (by decide) w) rfl fun _ _ => ⟨.inr fun _ h => h.pk [0, 1, 2, 3, 4], ?_⟩)
    refine GD.pure1 (i := 10) rfl (fun _ _ => rv_xor32 rfl rfl) ?_
    refine GD.pure1 (i := 11) rfl (fun _ _ => rv_assign rfl) ?_
    refine GD.done (by kernel_rfl) ?_
    refine GX.then ?_
    refine GC.seq ?_
    refine GC.reg ?_
    refine GL.val (rv_elemAJ (q := 0) (0) as_120 rfl rfl (by rfl) (by omega) (by rfl)) rfl ?_
    refine GL.val (rv_load ag_119 rfl (by exact Hd.cell (k := 0) rfl rfl)) rfl ?_
    refine GL.val (rv_elemAJ (q := 1) (1) as_120 rfl rfl (by rfl) (by omega) (by rfl)) rfl ?_
    refine GL.val (rv_load ag_119 rfl (by exact Hd.cell (k := 0) rfl rfl)) rfl ?_
    refine GL.val (rv_and32 rfl rfl) rfl ?_
    refine GL.val (rv_elemAJ (q := 0) (0) as_120 rfl rfl (by rfl) (by omega) (by rfl)) rfl ?_
    refine GL.val (rv_load ag_119 rfl (by exact Hd.cell (k := 0) rfl rfl)) rfl ?_
    refine GL.val (rv_elemAJ (q := 2) (2) as_120 rfl rfl (by rfl) (by omega) (by rfl)) rfl ?_
    refine GL.val (rv_load ag_119 rfl (by exact Hd.cell (k := 0) rfl rfl)) rfl ?_
    refine GL.val (rv_and32 rfl rfl) rfl ?_
    refine GL.val (rv_xor32 rfl rfl) rfl ?_
    refine GL.val (rv_elemAJ (q := 1) (1) as_120 rfl rfl (by rfl) (by omega) (by rfl)) rfl ?_
    refine GL.val (rv_load ag_119 rfl (by exact Hd.cell (k := 0) rfl rfl)) rfl ?_
    refine GL.val (rv_elemAJ (q := 2) (2) as_120 rfl rfl (by rfl) (by omega) (by rfl)) rfl ?_
    refine GL.val (rv_load ag_119 rfl (by exact Hd.cell (k := 0) rfl rfl)) rfl ?_
    refine GL.val (rv_and32 rfl rfl) rfl ?_
    refine GL.val (rv_xor32 rfl rfl) rfl ?_
    refine GL.val (rv_assign rfl) rfl ?_
    refine GL.nil ?_
    refine GX.then ?_
    refine GC.reg ?_
    refine GL.val (rv_move rfl) rfl ?_
    refine GL.val (rv_move rfl) rfl ?_
    refine GL.val (rv_add32 rfl rfl) rfl ?_
    refine GL.val (rv_move rfl) rfl ?_
    refine GL.val (rv_add32 rfl rfl) rfl ?_
    refine GL.val (rv_elemAJ (q := 0) (0) as_120 rfl rfl (by rfl) (by omega) (by rfl)) rfl ?_
    refine GL.val (rv_load ag_119 rfl (by exact Hd.cell (k := 0) rfl rfl)) rfl ?_
    refine GL.val (rv_elemAJ (q := 1) (1) as_120 rfl rfl (by rfl) (by omega) (by rfl)) rfl ?_
    refine GL.val (rv_load ag_119 rfl (by exact Hd.cell (k := 0) rfl rfl)) rfl ?_
    refine GL.val (rv_elemAJ (q := 2) (2) as_120 rfl rfl (by rfl) (by omega) (by rfl)) rfl ?_
    refine GL.val (rv_load ag_119 rfl (by exact Hd.cell (k := 0) rfl rfl)) rfl ?_
    refine GL.val (rv_elemAJ (q := 3) (3) as_120 rfl rfl (by rfl) (by omega) (by rfl)) rfl ?_
    refine GL.val (rv_load ag_119 rfl (by exact Hd.cell (k := 0) rfl rfl)) rfl ?_
    refine GL.val (rv_move rfl) rfl ?_
    refine GL.val (rv_add32 rfl rfl) rfl ?_
    refine GL.val (rv_elemAJ (q := 4) (4) as_120 rfl rfl (by rfl) (by omega) (by rfl)) rfl ?_
    refine GL.val (rv_load ag_119 rfl (by exact Hd.cell (k := 0) rfl rfl)) rfl ?_
    refine GL.val (rv_elemAJ (q := 5) (5) as_120 rfl rfl (by rfl) (by omega) (by rfl)) rfl ?_
    refine GL.val (rv_load ag_119 rfl (by exact Hd.cell (k := 0) rfl rfl)) rfl ?_
    refine GL.val (rv_elemAJ (q := 6) (6) as_120 rfl rfl (by rfl) (by omega) (by rfl)) rfl ?_
    refine GL.val (rv_load ag_119 rfl (by exact Hd.cell (k := 0) rfl rfl)) rfl ?_
    refine GL.val (rv_buildA (cs := ws32 [_, a0, a1, a2, _, a4, a5, a6]) as_120 zb_120 rfl rfl rfl rfl) rfl ?_
    refine GL.step (ot_storeA (k := 0) rfl rfl rfl rfl (by exact sz_120) (by rfl) (by rfl) (by exact ws32_one _) ?_)
    refine GL.nil ?_
    refine GX.blk ?_
    refine GX.then ?_
    refine GC.reg ?_
    refine GL.val (rv_move rfl) rfl ?_
    refine GL.val (rv_add rfl rfl (by omega) (by omega)) rfl ?_
    refine GL.val (rv_assign rfl) rfl ?_
    refine GL.nil ?_
    exact GX.round (t + 1) (by omega) (by omega) (by repeat (first | exact Sub.nil | refine Sub.cons rfl ?_)) (fun w9 h => by
        rw [show Sh.rounds (Sh.sched blk) hw (t + 1) = Sh.rnd (Sh.K64.getD t 0) ((Sh.sched blk).getD t 0) [a0, a1, a2, a3, a4, a5, a6, a7] from by rw [← hv]; rfl]
        exact h)
  · obtain rfl : t = 64 := by omega
    refine GC.exit ?_
    refine GX.then_exit ?_
    refine GX.then_exit ?_
    refine GX.blk_eq ?_
    refine GX.then ?_
    refine GC.seq ?_
    refine GC.seq ?_
    refine GC.reg ?_
    refine GL.val (rv_assign rfl) rfl ?_
    refine GL.nil ?_
    refine GX.then ?_
    refine GC.block ?_
    refine GC.loopK (γ := Nat) [7, 4, 2] [3, 2, 1, 0] (fun g Lk => (14, .int .i64 (g : Int)) :: Lk) (fun g Fk => .cl b2 (ws32 (Sh.addTo hw (Sh.rounds (Sh.sched blk) hw 64) g)) 120 :: Fk) (fun g => g ≤ 8) (fun g => 8 - g) (0) rfl rfl (Nat.zero_le _) (by repeat (first | exact Sub.nil | refine Sub.cons rfl ?_)) (fun w9 h => by
        have h := h.sel [3, 2, 1, 0, 4] rfl rfl
        exact h) (fun i hi => ?_)
    skip
    refine GC.seq ?_
    refine GC.seq ?_
    refine GC.reg ?_
    refine GL.val (rv_move rfl) rfl ?_
    refine GL.val (rv_lss rfl rfl) rfl ?_
    refine GL.nil ?_
    refine GX.then ?_
    refine GC.condP rfl (fun c111 => ?_) (fun c111 => ?_)
    · have hlt : i < 8 := by omega
      refine GC.skip ?_
      refine GX.then ?_
      refine GC.seq ?_
      refine GC.block ?_
      refine GC.draw 9 [0, 1, 2, 3, 4] mo_ ?_
      refine GD.pure1 (i := 0) rfl (fun _ _ => rv_move rfl) ?_
      refine GD.pure1 (i := 1) rfl (fun _ _ => rv_move rfl) ?_
      refine GD.pure1 (i := 2) rfl (fun _ _ => rv_elemAJ (q := i) (i) as_120 rfl rfl (by rfl) (by omega) (by omega)) ?_
      refine GD.pure1 (i := 4) rfl (fun _ _ => rv_move rfl) ?_
      refine GD.pure1 (i := 5) rfl (fun _ _ => rv_elemAJ (q := i) (i) as_120 rfl rfl (by rfl) (by omega) (by omega)) ?_
      refine GD.read1 (i := 3) rfl (rv_load ag_119 rfl (Hd.cell (k := 0) rfl (ws32_get (by (simp only [ws32_len, ws8_len, Sh.extTo_len, Sh.iwTo_len, Sh.lwTo_len, Sh.sched_len, Sh.K64_len, Sh.addTo_len, Sh.compress_len, h8, Sh.rounds_len _ _ h8, List.length_replicate, List.length_set]; first | done | decide | omega))))) ?_
      refine GD.step (i := 6) (by kernel_rfl) rfl (ot_val (rv_load ag_119 rfl (Hd.cell (k := 1) rfl (ws32_get (by (simp only [ws32_len, ws8_len, Sh.extTo_len, Sh.iwTo_len, Sh.lwTo_len, Sh.sched_len, Sh.K64_len, Sh.addTo_len, Sh.compress_len, h8, Sh.rounds_len _ _ h8, List.length_replicate, List.length_set]; first | done | decide | omega))))) rfl ⟨.inr fun _ h => h.pk [0, 1, 2, 3, 4], ?_⟩)
      refine GD.pure1 (i := 7) rfl (fun _ _ => rv_add32 rfl rfl) ?_
      refine GD.pure1 (i := 8) rfl (fun _ _ => rv_elemAJ (q := i) (i) as_120 rfl rfl (by rfl) (by omega) (by omega)) ?_
      refine GD.step (i := 9) (by kernel_rfl) rfl (ot_store1 (k := 0) rfl rfl rfl rfl (by exact sz_119) rfl (by rw [ws32_len]; first | omega | decide | (simp only [ws32_len, ws8_len, Sh.extTo_len, Sh.iwTo_len, Sh.lwTo_len, Sh.sched_len, Sh.K64_len, Sh.addTo_len, Sh.compress_len, h8, Sh.rounds_len _ _ h8, List.length_replicate, List.length_set]; first | done | decide | omega)) (ws32_set _ _ _) ⟨.inl rfl, ?_⟩)
      refine GD.done (by kernel_rfl) ?_
      refine GX.blk ?_
      refine GX.then ?_
      refine GC.reg ?_
      refine GL.val (rv_move rfl) rfl ?_
      refine GL.val (rv_add rfl rfl (by omega) (by omega)) rfl ?_
      refine GL.val (rv_assign rfl) rfl ?_
      refine GL.nil ?_
      exact GX.round (i + 1) (by omega) (by omega) (by repeat (first | exact Sub.nil | refine Sub.cons rfl ?_)) (fun w9 h => by
          exact h)
    · obtain rfl : i = 8 := by omega
      rw [show Sh.addTo hw (Sh.rounds (Sh.sched blk) hw 64) 8 = Sh.compress hw blk from by unfold Sh.compress; rfl]
      refine GC.exit ?_
      refine GX.then_exit ?_
      refine GX.then_exit ?_
      refine GX.blk_eq ?_
      refine GX.then ?_
      refine GC.seq ?_
      refine GC.reg ?_
      refine GL.val (rv_loadAL ag_120 rfl (by exact Hd.cellsAll (k := 0) rfl) (by exact sz_120) (by ((simp only [ws32_len, ws8_len, Sh.extTo_len, Sh.iwTo_len, Sh.lwTo_len, Sh.sched_len, Sh.K64_len, Sh.addTo_len, Sh.compress_len, h8, Sh.rounds_len _ _ h8, List.length_replicate, List.length_set]; first | done | decide | omega)))) rfl ?_
      refine GL.step (ot_storeA (k := 4) rfl rfl rfl rfl (by exact sz_120) (by ((simp only [ws32_len, ws8_len, Sh.extTo_len, Sh.iwTo_len, Sh.lwTo_len, Sh.sched_len, Sh.K64_len, Sh.addTo_len, Sh.compress_len, h8, Sh.rounds_len _ _ h8, List.length_replicate, List.length_set]; first | done | decide | omega))) (by (decide)) (by exact ws32_one _) ?_)
      refine GL.nil ?_
      refine GX.then ?_
      refine GC.ret ?_
      refine GX.ret1 rfl (RR.cellL ag_120 rfl (by exact Hd.cellsAll (k := 4) rfl) (by exact sz_120) (by ((simp only [ws32_len, ws8_len, Sh.extTo_len, Sh.iwTo_len, Sh.lwTo_len, Sh.sched_len, Sh.K64_len, Sh.addTo_len, Sh.compress_len, h8, Sh.rounds_len _ _ h8, List.length_replicate, List.length_set]; first | done | decide | omega)))) ?_
      exact fun w9 h => ⟨(), rfl, by
          have h := h.sel [] rfl rfl
          exact h, trivial⟩
end Go.Proofs.Ytkifeeiafachpaa
