import Derived.Test.YtjbnblkefhpibaaG
set_option linter.unusedVariables false
set_option linter.unusedSimpArgs false
namespace Go.Proofs.Ytjbnblkefhpibaa
open Go Go.RowKit Go.Bz
theorem hb_14 : hasBody Try.prog 14 = true := by kernel_rfl
theorem hb_15 : hasBody Try.prog 15 = true := by kernel_rfl
set_option maxRecDepth 100000 in
set_option maxHeartbeats 1000000 in
theorem does_law (most : Int) (A : Option Addr) (n c : Nat) (ol : List Bc.Op) (w : World) (hR : SlR w A (opc ol)) (hl : ol.length = n) :
    Calls Try.prog 4 [.int .i64 most, .slice A n c].toArray w fun e w' => ∃ _g : Unit, e = .returned (.bool true) ∧ St noB w w' [] ∧ True := by
  refine GC.calls Try.func4 rfl rfl (St.begin _) ?_
  have HA := roHead hR
  subst hl
  refine GC.seq ?_
  refine GC.reg ?_
  refine GL.val (rv_assign rfl) rfl ?_
  refine GL.nil ?_
  refine GX.then ?_
  refine GC.seq ?_
  refine GC.reg ?_
  refine GL.val (rv_move rfl) rfl ?_
  refine GL.step (ot_call hb_8 rfl (callOk fun w hh => start_c most w) rfl fun p _ => ?_)
  refine GL.val (rv_move rfl) rfl ?_
  refine GL.val (rv_extract rfl rfl) rfl ?_
  refine GL.val (rv_extract rfl rfl) rfl ?_
  refine GL.step (ot_alloc (zs := [.int .i64 0, .slice none 0 0, .slice none 0 0, .int .i64 0, .int .i64 0]) zb_27 rfl rfl fun b6 => ?_)
  refine GL.val (rv_assign rfl) rfl ?_
  first | refine GL.step (ot_store (k := 0) rfl rfl rfl rfl sz_27 rfl rfl (by first | ((simp only [repl, List.set_cons_zero, List.set_cons_succ]) <;> rfl) | rfl) ?_) | refine GL.step (ot_store (k := 1) rfl rfl rfl rfl sz_27 rfl rfl (by first | ((simp only [repl, List.set_cons_zero, List.set_cons_succ]) <;> rfl) | rfl) ?_)
  refine GL.nil ?_
  refine GX.then ?_
  refine GC.seq ?_
  refine GC.seq ?_
  refine GC.reg ?_
  refine GL.val (rv_move rfl) rfl ?_
  refine GL.val (rv_ptrNil rfl rfl Try.underlying23) rfl ?_
  refine GL.nil ?_
  refine GX.then ?_
  first | refine GC.condP rfl (fun c1 => ?_) (fun c1 => ?_) | refine GC.cond rfl (fun c1 => ?_) (fun c1 => ?_)
  · exact absurd c1 (by simp)
  · refine GC.skip ?_
    refine GX.then ?_
    refine GC.seq ?_
    refine GC.seq ?_
    refine GC.reg ?_
    refine GL.val (rv_move rfl) rfl ?_
    refine GL.step (ot_call hb_9 rfl (callOk fun w hh => few_c A _ c w) rfl fun _ _ => ?_)
    refine GL.val (rv_not rfl) rfl ?_
    refine GL.nil ?_
    refine GX.then ?_
    first | refine GC.condP rfl (fun c2 => ?_) (fun c2 => ?_) | refine GC.cond rfl (fun c2 => ?_) (fun c2 => ?_)
    · have c2 : ¬ ol.length ≤ 200 := by simpa using c2
      refine GC.seq ?_
      refine GC.reg ?_
      refine GL.step (ot_call hb_10 rfl (callOk fun w hh => works_c w) rfl fun _ _ => ?_)
      refine GL.val (rv_assign rfl) rfl ?_
      refine GL.nil ?_
      refine GX.then ?_
      refine GC.ret ?_
      refine GX.then_ret ?_
      refine GX.ret1 rfl (RR.tmp rfl) ?_
      exact fun w1 h1 => ⟨(), rfl, h1.take 0, trivial⟩
    · have c2 : ol.length ≤ 200 := by simpa using c2
      refine GC.skip ?_
      refine GX.then ?_
      refine GC.seq ?_
      refine GC.seq ?_
      refine GC.reg ?_
      refine GL.val (rv_assign rfl) rfl ?_
      refine GL.nil ?_
      refine GX.then ?_
      refine GC.block ?_
      refine GC.loop (γ := Nat × (Option Addr × Nat) × (Option Addr × Nat)) (fun g => [(1, .slice A ol.length c), (5, .pointer (some ⟨p, 0, none⟩)), (6, .pointer (some ⟨b6, 0, none⟩)), (7, .int .i64 (g.1 : Int))]) (fun g => [.cl b6 [.int .i64 (max (min most 1000) 0), .slice g.2.1.1 (Bc.run (max (min most 1000) 0) (ol.take g.1)).1.length g.2.1.2, .slice g.2.2.1 (Bc.run (max (min most 1000) 0) (ol.take g.1)).1.length g.2.2.2, .int .i64 (Bc.run (max (min most 1000) 0) (ol.take g.1)).2.1, .int .i64 (Bc.run (max (min most 1000) 0) (ol.take g.1)).2.2] 27, CcP p (max (min most 1000) 0) (Bc.run (max (min most 1000) 0) (ol.take g.1)).1 (Bc.run (max (min most 1000) 0) (ol.take g.1)).2.1 (Bc.run (max (min most 1000) 0) (ol.take g.1)).2.2, roP g.2.1.1 ((Bc.run (max (min most 1000) 0) (ol.take g.1)).1.map fun q => .string q.1), roP g.2.2.1 ((Bc.run (max (min most 1000) 0) (ol.take g.1)).1.map fun q => .int .i64 q.2)]) (fun g => g.1 ≤ ol.length) (fun g => ol.length - g.1) ((0, (none, 0), (none, 0))) (Nat.zero_le _) (by repeat (first | exact Sub.nil | refine Sub.cons rfl ?_)) (fun w h => (((St.roNil (St.roNil h)).pull (k := 2) rfl).pull (k := 3) rfl).pull (k := 1) rfl) (fun ⟨j, ⟨A9, c9⟩, ⟨B9, d9⟩⟩ hj => ?_)
      dsimp only at hj ⊢
      refine GC.seq ?_
      refine GC.seq ?_
      refine GC.reg ?_
      refine GL.val (rv_move rfl) rfl ?_
      refine GL.val (rv_move rfl) rfl ?_
      refine GL.val (rv_lenSl Try.underlying22 rfl) rfl ?_
      refine GL.val (rv_lss rfl rfl) rfl ?_
      refine GL.nil ?_
      refine GX.then ?_
      first | refine GC.condP rfl (fun c3 => ?_) (fun c3 => ?_) | refine GC.cond rfl (fun c3 => ?_) (fun c3 => ?_)
      · have hlt : j < ol.length := by omega
        obtain ⟨b, o, rfl, hC⟩ := HA.resolve_left (by omega)
        have hI := Bc.Inv.run (m := (max (min most 1000) 0)) (by omega) ol j (by omega)
        have hI1 := Bc.Inv.run (m := (max (min most 1000) 0)) (by omega) ol (j + 1) (by omega)
        have hn1 := hI1.len
        have hh0 := hI1.h0
        have hh1 : (Bc.run (max (min most 1000) 0) (ol.take (j + 1))).2.1 ≤ 1000000 := by have := hI1.h1; omega
        have hs0 := hI1.s0
        have hs1 : (Bc.run (max (min most 1000) 0) (ol.take (j + 1))).2.2 ≤ 1000000 := by have := hI1.s1; omega
        refine GC.skip ?_
        refine GX.then ?_
        refine GC.seq ?_
        refine GC.block ?_
        refine GC.seq ?_
        refine GC.cutE (γ := Nat × (Option Addr × Nat) × (Option Addr × Nat)) (fun g => [(1, .slice (some ⟨b, o, none⟩) ol.length c), (5, .pointer (some ⟨p, 0, none⟩)), (6, .pointer (some ⟨b6, 0, none⟩)), (7, .int .i64 (j : Int)), (8, .pointer (some ⟨g.1, 0, none⟩)), (9, .bool true)]) (fun g => [.cl b6 [.int .i64 (max (min most 1000) 0), .slice A9 (Bc.run (max (min most 1000) 0) (ol.take j)).1.length c9, .slice B9 (Bc.run (max (min most 1000) 0) (ol.take j)).1.length d9, .int .i64 (Bc.run (max (min most 1000) 0) (ol.take j)).2.1, .int .i64 (Bc.run (max (min most 1000) 0) (ol.take j)).2.2] 27, CcP p (max (min most 1000) 0) (Bc.run (max (min most 1000) 0) (ol.take (j + 1))).1 (Bc.run (max (min most 1000) 0) (ol.take (j + 1))).2.1 (Bc.run (max (min most 1000) 0) (ol.take (j + 1))).2.2, roP g.2.1.1 ((Bc.run (max (min most 1000) 0) (ol.take (j + 1))).1.map fun q => .string q.1), roP g.2.2.1 ((Bc.run (max (min most 1000) 0) (ol.take (j + 1))).1.map fun q => .int .i64 q.2), .cl g.1 [.int .i64 (max (min most 1000) 0), .slice g.2.1.1 (Bc.run (max (min most 1000) 0) (ol.take (j + 1))).1.length g.2.1.2, .slice g.2.2.1 (Bc.run (max (min most 1000) 0) (ol.take (j + 1))).1.length g.2.2.2, .int .i64 (Bc.run (max (min most 1000) 0) (ol.take (j + 1))).2.1, .int .i64 (Bc.run (max (min most 1000) 0) (ol.take (j + 1))).2.2] 27]) ?_ ?_
        · refine GC.st (fun w h => St.grp (Gs := [_, _, _]) (((h.pull (k := 3) rfl).pull (k := 3) rfl).pull (k := 3) rfl)) ?_
          refine GC.draw 11 [1] mo_ ?_
          refine GD.pure (i := 0) rfl (fun _ _ => rv_move rfl) (by kernel_rfl) (by repeat (first | exact noPanicPut_body | exact noPanicPut_cut | exact noPanicPut_cutE | refine noPanicPut_then ?_ | refine noPanicPut_blk ?_)) ?_
          refine GD.pure (i := 2) rfl (fun _ _ => rv_move rfl) (by kernel_rfl) (by repeat (first | exact noPanicPut_body | exact noPanicPut_cut | exact noPanicPut_cutE | refine noPanicPut_then ?_ | refine noPanicPut_blk ?_)) ?_
          refine GD.pure (i := 3) rfl (fun _ _ => rv_move rfl) (by kernel_rfl) (by repeat (first | exact noPanicPut_body | exact noPanicPut_cut | exact noPanicPut_cutE | refine noPanicPut_then ?_ | refine noPanicPut_blk ?_)) ?_
          refine GD.pure (i := 4) rfl (fun _ _ => rv_elem es_22 rfl rfl (by omega) (by omega)) (by kernel_rfl) (by repeat (first | exact noPanicPut_body | exact noPanicPut_cut | exact noPanicPut_cutE | refine noPanicPut_then ?_ | refine noPanicPut_blk ?_)) ?_
          refine GD.read (i := 1) rfl (rv_loadA ag_27 rfl (by first | exact Hd.cellsAll (k := 0) rfl | exact Hd.cells0 (by assumption) (by first | exact fun h => h | assumption)) (by exact sz_27)) (by kernel_rfl) (by repeat (first | exact noPanicPut_body | exact noPanicPut_cut | exact noPanicPut_cutE | refine noPanicPut_then ?_ | refine noPanicPut_blk ?_)) ?_
          refine GD.read (i := 5) rfl (rv_loadA ag_35 rfl (Hd.cells0 (opC hC hlt) (fun h => h)) (by exact sz_35)) (by kernel_rfl) (by repeat (first | exact noPanicPut_body | exact noPanicPut_cut | exact noPanicPut_cutE | refine noPanicPut_then ?_ | refine noPanicPut_blk ?_)) ?_
          refine GD.each2 (i := 6) (j := 10) (by kernel_rfl) rfl rfl ?_ ?_
          · refine ot_call hb_11 rfl (callOkM (k := 0) rfl fun w S _ hA hb => step_c p j (max (min most 1000) 0) (Bc.run (max (min most 1000) 0) (ol.take j)).2.1 (Bc.run (max (min most 1000) 0) (ol.take j)).2.2 ol[j].1 ol[j].2.2 ol[j].2.1 A9 B9 c9 d9 (Bc.run (max (min most 1000) 0) (ol.take j)).1 w S hA hb hI (by omega)) rfl fun g38 _ => ⟨.inr fun _ h => h.pk [3], ?_⟩
            obtain ⟨⟨A38, c38⟩, ⟨B38, d38⟩⟩ := g38
            refine GD.pure (i := 7) rfl (fun _ _ => rv_move rfl) (by kernel_rfl) (by repeat (first | exact noPanicPut_body | exact noPanicPut_cut | exact noPanicPut_cutE | refine noPanicPut_then ?_ | refine noPanicPut_blk ?_)) ?_
            refine GD.pure (i := 8) rfl (fun _ _ => rv_extract rfl rfl) (by kernel_rfl) (by repeat (first | exact noPanicPut_body | exact noPanicPut_cut | exact noPanicPut_cutE | refine noPanicPut_then ?_ | refine noPanicPut_blk ?_)) ?_
            refine GD.pure (i := 9) rfl (fun _ _ => rv_extract rfl rfl) (by kernel_rfl) (by repeat (first | exact noPanicPut_body | exact noPanicPut_cut | exact noPanicPut_cutE | refine noPanicPut_then ?_ | refine noPanicPut_blk ?_)) ?_
            refine GD.step (i := 10) (by kernel_rfl) rfl (ot_alloc (zs := [.int .i64 0, .slice none 0 0, .slice none 0 0, .int .i64 0, .int .i64 0]) zb_27 rfl rfl fun b8 => ⟨.inr fun _ h => h.pk [4], ?_⟩)
            first | refine GD.step (i := 11) (by kernel_rfl) rfl (ot_store (k := 0) rfl rfl rfl rfl sz_27 rfl rfl (by first | ((simp only [repl, List.set_cons_zero, List.set_cons_succ]) <;> rfl) | rfl) ⟨.inl rfl, ?_⟩) | refine GD.step (i := 11) (by kernel_rfl) rfl (ot_store (k := 1) rfl rfl rfl rfl sz_27 rfl rfl (by first | ((simp only [repl, List.set_cons_zero, List.set_cons_succ]) <;> rfl) | rfl) ⟨.inl rfl, ?_⟩) | refine GD.step (i := 11) (by kernel_rfl) rfl (ot_store (k := 2) rfl rfl rfl rfl sz_27 rfl rfl (by first | ((simp only [repl, List.set_cons_zero, List.set_cons_succ]) <;> rfl) | rfl) ⟨.inl rfl, ?_⟩) | refine GD.step (i := 11) (by kernel_rfl) rfl (ot_store (k := 3) rfl rfl rfl rfl sz_27 rfl rfl (by first | ((simp only [repl, List.set_cons_zero, List.set_cons_succ]) <;> rfl) | rfl) ⟨.inl rfl, ?_⟩) | refine GD.step (i := 11) (by kernel_rfl) rfl (ot_store (k := 4) rfl rfl rfl rfl sz_27 rfl rfl (by first | ((simp only [repl, List.set_cons_zero, List.set_cons_succ]) <;> rfl) | rfl) ⟨.inl rfl, ?_⟩) | refine GD.step (i := 11) (by kernel_rfl) rfl (ot_store (k := 5) rfl rfl rfl rfl sz_27 rfl rfl (by first | ((simp only [repl, List.set_cons_zero, List.set_cons_succ]) <;> rfl) | rfl) ⟨.inl rfl, ?_⟩) | refine GD.step (i := 11) (by kernel_rfl) rfl (ot_store (k := 6) rfl rfl rfl rfl sz_27 rfl rfl (by first | ((simp only [repl, List.set_cons_zero, List.set_cons_succ]) <;> rfl) | rfl) ⟨.inl rfl, ?_⟩)
            refine GD.pure (i := 12) rfl (fun _ _ => rv_assign rfl) (by kernel_rfl) (by repeat (first | exact noPanicPut_body | exact noPanicPut_cut | exact noPanicPut_cutE | refine noPanicPut_then ?_ | refine noPanicPut_blk ?_)) ?_
            refine GD.done (by kernel_rfl) ?_
            exact GX.cutE (b8, (A38, c38), (B38, d38)) (by repeat (first | exact Sub.nil | refine Sub.cons rfl ?_)) (fun w h => by dsimp only; rw [Bc.run_take (max (min most 1000) 0) ol j hlt]; exact (((h.pull (k := 3) rfl).pull (k := 3) rfl).pull (k := 3) rfl).pull (k := 4) rfl)
          · refine ot_alloc (zs := [.int .i64 0, .slice none 0 0, .slice none 0 0, .int .i64 0, .int .i64 0]) zb_27 rfl rfl fun b8 => ⟨.inr fun _ h => h.pk [2], ?_⟩
            refine GD.step (i := 6) (by kernel_rfl) rfl (ot_call hb_11 rfl (callOkM (k := 1) rfl fun w S _ hA hb => step_c p j (max (min most 1000) 0) (Bc.run (max (min most 1000) 0) (ol.take j)).2.1 (Bc.run (max (min most 1000) 0) (ol.take j)).2.2 ol[j].1 ol[j].2.2 ol[j].2.1 A9 B9 c9 d9 (Bc.run (max (min most 1000) 0) (ol.take j)).1 w S hA hb hI (by omega)) rfl fun g38 _ => ⟨.inr fun _ h => h.pk [4], ?_⟩)
            obtain ⟨⟨A38, c38⟩, ⟨B38, d38⟩⟩ := g38
            refine GD.pure (i := 7) rfl (fun _ _ => rv_move rfl) (by kernel_rfl) (by repeat (first | exact noPanicPut_body | exact noPanicPut_cut | exact noPanicPut_cutE | refine noPanicPut_then ?_ | refine noPanicPut_blk ?_)) ?_
            refine GD.pure (i := 8) rfl (fun _ _ => rv_extract rfl rfl) (by kernel_rfl) (by repeat (first | exact noPanicPut_body | exact noPanicPut_cut | exact noPanicPut_cutE | refine noPanicPut_then ?_ | refine noPanicPut_blk ?_)) ?_
            refine GD.pure (i := 9) rfl (fun _ _ => rv_extract rfl rfl) (by kernel_rfl) (by repeat (first | exact noPanicPut_body | exact noPanicPut_cut | exact noPanicPut_cutE | refine noPanicPut_then ?_ | refine noPanicPut_blk ?_)) ?_
            first | refine GD.step (i := 11) (by kernel_rfl) rfl (ot_store (k := 0) rfl rfl rfl rfl sz_27 rfl rfl (by first | ((simp only [repl, List.set_cons_zero, List.set_cons_succ]) <;> rfl) | rfl) ⟨.inl rfl, ?_⟩) | refine GD.step (i := 11) (by kernel_rfl) rfl (ot_store (k := 1) rfl rfl rfl rfl sz_27 rfl rfl (by first | ((simp only [repl, List.set_cons_zero, List.set_cons_succ]) <;> rfl) | rfl) ⟨.inl rfl, ?_⟩) | refine GD.step (i := 11) (by kernel_rfl) rfl (ot_store (k := 2) rfl rfl rfl rfl sz_27 rfl rfl (by first | ((simp only [repl, List.set_cons_zero, List.set_cons_succ]) <;> rfl) | rfl) ⟨.inl rfl, ?_⟩) | refine GD.step (i := 11) (by kernel_rfl) rfl (ot_store (k := 3) rfl rfl rfl rfl sz_27 rfl rfl (by first | ((simp only [repl, List.set_cons_zero, List.set_cons_succ]) <;> rfl) | rfl) ⟨.inl rfl, ?_⟩) | refine GD.step (i := 11) (by kernel_rfl) rfl (ot_store (k := 4) rfl rfl rfl rfl sz_27 rfl rfl (by first | ((simp only [repl, List.set_cons_zero, List.set_cons_succ]) <;> rfl) | rfl) ⟨.inl rfl, ?_⟩) | refine GD.step (i := 11) (by kernel_rfl) rfl (ot_store (k := 5) rfl rfl rfl rfl sz_27 rfl rfl (by first | ((simp only [repl, List.set_cons_zero, List.set_cons_succ]) <;> rfl) | rfl) ⟨.inl rfl, ?_⟩) | refine GD.step (i := 11) (by kernel_rfl) rfl (ot_store (k := 6) rfl rfl rfl rfl sz_27 rfl rfl (by first | ((simp only [repl, List.set_cons_zero, List.set_cons_succ]) <;> rfl) | rfl) ⟨.inl rfl, ?_⟩)
            refine GD.pure (i := 12) rfl (fun _ _ => rv_assign rfl) (by kernel_rfl) (by repeat (first | exact noPanicPut_body | exact noPanicPut_cut | exact noPanicPut_cutE | refine noPanicPut_then ?_ | refine noPanicPut_blk ?_)) ?_
            refine GD.done (by kernel_rfl) ?_
            exact GX.cutE (b8, (A38, c38), (B38, d38)) (by repeat (first | exact Sub.nil | refine Sub.cons rfl ?_)) (fun w h => by dsimp only; rw [Bc.run_take (max (min most 1000) 0) ol j hlt]; exact h.pull (k := 4) rfl)
        refine fun g => ?_
        refine GX.then ?_
        refine GC.seq ?_
        refine GC.reg ?_
        refine GL.val (rv_loadA ag_27 rfl (by first | exact Hd.cellsAll (k := 0) rfl | exact Hd.cellsAll (k := 1) rfl | exact Hd.cellsAll (k := 2) rfl | exact Hd.cellsAll (k := 3) rfl | exact Hd.cellsAll (k := 4) rfl | exact Hd.cells0 (by assumption) (by first | exact fun h => h | assumption)) (by exact sz_27)) rfl ?_
        first | refine GL.step (ot_store (k := 0) rfl rfl rfl rfl sz_27 rfl rfl (by first | ((simp only [repl, List.set_cons_zero, List.set_cons_succ]) <;> rfl) | rfl) ?_) | refine GL.step (ot_store (k := 1) rfl rfl rfl rfl sz_27 rfl rfl (by first | ((simp only [repl, List.set_cons_zero, List.set_cons_succ]) <;> rfl) | rfl) ?_) | refine GL.step (ot_store (k := 2) rfl rfl rfl rfl sz_27 rfl rfl (by first | ((simp only [repl, List.set_cons_zero, List.set_cons_succ]) <;> rfl) | rfl) ?_) | refine GL.step (ot_store (k := 3) rfl rfl rfl rfl sz_27 rfl rfl (by first | ((simp only [repl, List.set_cons_zero, List.set_cons_succ]) <;> rfl) | rfl) ?_) | refine GL.step (ot_store (k := 4) rfl rfl rfl rfl sz_27 rfl rfl (by first | ((simp only [repl, List.set_cons_zero, List.set_cons_succ]) <;> rfl) | rfl) ?_)
        refine GL.nil ?_
        refine GX.then ?_
        refine GC.seq ?_
        refine GC.reg ?_
        refine GL.val (rv_move rfl) rfl ?_
        refine GL.step (ot_call hb_13 rfl (callOkM (k := 1) rfl fun w S _ hA hb => count_c p (max (min most 1000) 0) (Bc.run (max (min most 1000) 0) (ol.take (j + 1))).2.1 (Bc.run (max (min most 1000) 0) (ol.take (j + 1))).2.2 (Bc.run (max (min most 1000) 0) (ol.take (j + 1))).1 w S hA hb) rfl fun _ _ => ?_)
        refine GL.val (rv_move rfl) rfl ?_
        refine GL.val (rv_extract rfl rfl) rfl ?_
        refine GL.val (rv_extract rfl rfl) rfl ?_
        refine GL.val (rv_assign rfl) rfl ?_
        refine GL.val (rv_assign rfl) rfl ?_
        refine GL.nil ?_
        refine GX.then ?_
        refine GC.seq ?_
        refine GC.draw 22 [1] mo_ ?_
        refine GD.pure (i := 0) rfl (fun _ _ => rv_move rfl) (by kernel_rfl) (by repeat (first | exact noPanicPut_body | exact noPanicPut_cut | exact noPanicPut_cutE | refine noPanicPut_then ?_ | refine noPanicPut_blk ?_)) ?_
        refine GD.pure (i := 1) rfl (fun _ _ => rv_not rfl) (by kernel_rfl) (by repeat (first | exact noPanicPut_body | exact noPanicPut_cut | exact noPanicPut_cutE | refine noPanicPut_then ?_ | refine noPanicPut_blk ?_)) ?_
        refine GD.pure (i := 2) rfl (fun _ _ => rv_move rfl) (by kernel_rfl) (by repeat (first | exact noPanicPut_body | exact noPanicPut_cut | exact noPanicPut_cutE | refine noPanicPut_then ?_ | refine noPanicPut_blk ?_)) ?_
        refine GD.pureG (i := 3) rfl rfl (fun _ _ => rv_move rfl) (by kernel_rfl) (by repeat (first | exact noPanicPut_body | exact noPanicPut_cut | exact noPanicPut_cutE | refine noPanicPut_then ?_ | refine noPanicPut_blk ?_)) ?_
        refine GD.pureG (i := 5) rfl rfl (fun _ _ => rv_field fo_27_1 rfl rfl) (by kernel_rfl) (by repeat (first | exact noPanicPut_body | exact noPanicPut_cut | exact noPanicPut_cutE | refine noPanicPut_then ?_ | refine noPanicPut_blk ?_)) ?_
        refine GD.readG (i := 6) rfl rfl (rv_load ag_24 rfl (by first | exact Hd.cell (k := 0) rfl rfl | exact Hd.rowCell (k := 0) rfl (by assumption) | exact Hd.cell0 (by assumption) (by first | exact fun h => h | assumption))) (by kernel_rfl) (by repeat (first | exact noPanicPut_body | exact noPanicPut_cut | exact noPanicPut_cutE | refine noPanicPut_then ?_ | refine noPanicPut_blk ?_)) ?_
        refine GD.stepG (i := 4) (by kernel_rfl) rfl rfl (ot_call hb_15 rfl (callOkM (k := 0) rfl fun w S _ hA hb => keys_c p (max (min most 1000) 0) (Bc.run (max (min most 1000) 0) (ol.take (j + 1))).2.1 (Bc.run (max (min most 1000) 0) (ol.take (j + 1))).2.2 (Bc.run (max (min most 1000) 0) (ol.take (j + 1))).1 w S hA hb (by omega) hh0 hh1 hs0 hs1) rfl fun g49 _ => ⟨.inr fun _ h => h.pk [2], ?_⟩)
        obtain ⟨A49, c49⟩ := g49
        refine GD.stepG (i := 7) (by kernel_rfl) rfl rfl (ot_call hb_14 rfl (callOk fun w hh => same_c A49 g.2.1.1 c49 g.2.1.2 _ _ ((Bc.run (max (min most 1000) 0) (ol.take (j + 1))).1.map (·.1)) ((Bc.run (max (min most 1000) 0) (ol.take (j + 1))).1.map (·.1)) w (by simpa [Function.comp_def] using hh.rowR (k := 1) rfl) (by simpa [Function.comp_def] using hh.ro (k := 3) rfl) (by simp) (by simp) (by omega)) rfl fun _ _ => ⟨.inr fun _ h => h.pk [2], ?_⟩)
        refine GD.pureG (i := 8) rfl rfl (fun _ _ => rv_to (v' := .bool false) (rv_not rfl) (by simp)) (by kernel_rfl) (by repeat (first | exact noPanicPut_body | exact noPanicPut_cut | exact noPanicPut_cutE | refine noPanicPut_then ?_ | refine noPanicPut_blk ?_)) ?_
        refine GD.pure (i := 9) rfl (fun _ _ => (by first | exact rv_orF rfl rfl rfl | exact rv_orT rfl rfl rfl | exact rv_pickOr rfl rfl rfl)) (by kernel_rfl) (by repeat (first | exact noPanicPut_body | exact noPanicPut_cut | exact noPanicPut_cutE | refine noPanicPut_then ?_ | refine noPanicPut_blk ?_)) ?_
        refine GD.pure (i := 10) rfl (fun _ _ => rv_move rfl) (by kernel_rfl) (by repeat (first | exact noPanicPut_body | exact noPanicPut_cut | exact noPanicPut_cutE | refine noPanicPut_then ?_ | refine noPanicPut_blk ?_)) ?_
        refine GD.pureG (i := 11) rfl rfl (fun _ _ => rv_move rfl) (by kernel_rfl) (by repeat (first | exact noPanicPut_body | exact noPanicPut_cut | exact noPanicPut_cutE | refine noPanicPut_then ?_ | refine noPanicPut_blk ?_)) ?_
        refine GD.pureG (i := 12) rfl rfl (fun _ _ => rv_field fo_27_3 rfl rfl) (by kernel_rfl) (by repeat (first | exact noPanicPut_body | exact noPanicPut_cut | exact noPanicPut_cutE | refine noPanicPut_then ?_ | refine noPanicPut_blk ?_)) ?_
        refine GD.readG (i := 13) rfl rfl (rv_load ag_3 rfl (by first | exact Hd.cell (k := 0) rfl rfl | exact Hd.rowCell (k := 0) rfl (by assumption) | exact Hd.cell0 (by assumption) (by first | exact fun h => h | assumption))) (by kernel_rfl) (by repeat (first | exact noPanicPut_body | exact noPanicPut_cut | exact noPanicPut_cutE | refine noPanicPut_then ?_ | refine noPanicPut_blk ?_)) ?_
        refine GD.pureG (i := 14) rfl rfl (fun _ _ => rv_to (v' := .bool false) (rv_neI rfl rfl) (by simp)) (by kernel_rfl) (by repeat (first | exact noPanicPut_body | exact noPanicPut_cut | exact noPanicPut_cutE | refine noPanicPut_then ?_ | refine noPanicPut_blk ?_)) ?_
        refine GD.pure (i := 15) rfl (fun _ _ => (by first | exact rv_orF rfl rfl rfl | exact rv_orT rfl rfl rfl | exact rv_pickOr rfl rfl rfl)) (by kernel_rfl) (by repeat (first | exact noPanicPut_body | exact noPanicPut_cut | exact noPanicPut_cutE | refine noPanicPut_then ?_ | refine noPanicPut_blk ?_)) ?_
        refine GD.pure (i := 16) rfl (fun _ _ => rv_move rfl) (by kernel_rfl) (by repeat (first | exact noPanicPut_body | exact noPanicPut_cut | exact noPanicPut_cutE | refine noPanicPut_then ?_ | refine noPanicPut_blk ?_)) ?_
        refine GD.pureG (i := 17) rfl rfl (fun _ _ => rv_move rfl) (by kernel_rfl) (by repeat (first | exact noPanicPut_body | exact noPanicPut_cut | exact noPanicPut_cutE | refine noPanicPut_then ?_ | refine noPanicPut_blk ?_)) ?_
        refine GD.pureG (i := 18) rfl rfl (fun _ _ => rv_field fo_27_4 rfl rfl) (by kernel_rfl) (by repeat (first | exact noPanicPut_body | exact noPanicPut_cut | exact noPanicPut_cutE | refine noPanicPut_then ?_ | refine noPanicPut_blk ?_)) ?_
        refine GD.readG (i := 19) rfl rfl (rv_load ag_3 rfl (by first | exact Hd.cell (k := 0) rfl rfl | exact Hd.rowCell (k := 0) rfl (by assumption) | exact Hd.cell0 (by assumption) (by first | exact fun h => h | assumption))) (by kernel_rfl) (by repeat (first | exact noPanicPut_body | exact noPanicPut_cut | exact noPanicPut_cutE | refine noPanicPut_then ?_ | refine noPanicPut_blk ?_)) ?_
        refine GD.pureG (i := 20) rfl rfl (fun _ _ => rv_to (v' := .bool false) (rv_neI rfl rfl) (by simp)) (by kernel_rfl) (by repeat (first | exact noPanicPut_body | exact noPanicPut_cut | exact noPanicPut_cutE | refine noPanicPut_then ?_ | refine noPanicPut_blk ?_)) ?_
        refine GD.pure (i := 21) rfl (fun _ _ => (by first | exact rv_orF rfl rfl rfl | exact rv_orT rfl rfl rfl | exact rv_pickOr rfl rfl rfl)) (by kernel_rfl) (by repeat (first | exact noPanicPut_body | exact noPanicPut_cut | exact noPanicPut_cutE | refine noPanicPut_then ?_ | refine noPanicPut_blk ?_)) ?_
        refine GD.done (by kernel_rfl) ?_
        refine GX.then ?_
        first | refine GC.condP rfl (fun c4 => ?_) (fun c4 => ?_) | refine GC.cond rfl (fun c4 => ?_) (fun c4 => ?_)
        · exact absurd c4 (by simp)
        · refine GC.skip ?_
          refine GX.blk ?_
          refine GX.then ?_
          refine GC.reg ?_
          refine GL.val (rv_move rfl) rfl ?_
          refine GL.val (rv_add rfl rfl (by omega) (by omega)) rfl ?_
          refine GL.val (rv_assign rfl) rfl ?_
          refine GL.nil ?_
          exact GX.round (j + 1, g.2.1, g.2.2) (by show _ - (j + 1) < _ - j; omega) (by show j + 1 ≤ _; omega) (by repeat (first | exact Sub.nil | refine Sub.cons rfl ?_)) (fun w h => ((h.pull (k := 2) rfl).drop 2).take 4)
      · refine GC.exit ?_
        refine GX.then_exit ?_
        refine GX.then_exit ?_
        refine GX.blk_eq ?_
        refine GX.then ?_
        refine GC.seq ?_
        refine GC.reg ?_
        refine GL.step (ot_call hb_10 rfl (callOk fun w hh => works_c w) rfl fun _ _ => ?_)
        refine GL.val (rv_assign rfl) rfl ?_
        refine GL.nil ?_
        refine GX.then ?_
        refine GC.ret ?_
        refine GX.ret1 rfl (RR.tmp rfl) ?_
        exact fun w1 h1 => ⟨(), rfl, h1.take 0, trivial⟩
end Go.Proofs.Ytjbnblkefhpibaa
