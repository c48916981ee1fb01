import Derived.Test.YtjbnblkefhpibaaB
set_option linter.unusedVariables false
set_option linter.unusedSimpArgs false
namespace Go.Proofs.Ytjbnblkefhpibaa
open Go Go.RowKit Go.Bz
theorem ag_27 : aggB Try.prog 27 = some true := by kernel_rfl
theorem fo_27_0 : fieldOff Try.prog 27 0 = some 0 := by kernel_rfl
theorem fo_27_1 : fieldOff Try.prog 27 1 = some 1 := by kernel_rfl
theorem fo_27_2 : fieldOff Try.prog 27 2 = some 2 := by kernel_rfl
theorem fo_27_3 : fieldOff Try.prog 27 3 = some 3 := by kernel_rfl
theorem fo_27_4 : fieldOff Try.prog 27 4 = some 4 := by kernel_rfl
theorem pl_27 : placesB Try.prog 27 = some [(0, 1), (1, 1), (2, 1), (3, 1), (4, 1)] := by kernel_rfl
theorem sz_27 : (Try.prog.info? 27).map (·.size) = some 5 := by kernel_rfl
theorem zb_27 : zeroB Try.prog 27 = some (.agg #[.int .i64 0, .slice none 0 0, .slice none 0 0, .int .i64 0, .int .i64 0]) := by kernel_rfl
set_option maxRecDepth 100000 in
set_option maxHeartbeats 1000000 in
theorem without_c (m h s : Int) (A B : Option Addr) (c1 c2 : Nat) (kv : Bc.KV) (k : ByteArray) (w : World) (hK : SlR w A (kv.map fun q => .string q.1)) (hV : SlR w B (kv.map fun q => .int .i64 q.2)) (hn : kv.length ≤ 100000) :
    Calls Try.prog 27 [.agg #[.int .i64 m, .slice A kv.length c1, .slice B kv.length c2, .int .i64 h, .int .i64 s], .string k].toArray w fun e w' => ∃ g : (Option Addr × Nat) × (Option Addr × Nat), e = .returned (.tuple #[.agg #[.int .i64 m, .slice g.1.1 (Bc.wo kv k).length g.1.2, .slice g.2.1 (Bc.wo kv k).length g.2.2, .int .i64 h, .int .i64 s], .int .i64 (Bc.vl kv k), .bool (Bc.hs kv k)]) ∧ St noB w w' [.row g.1.1 g.1.2 9 1 (Bc.wo kv k).length ((Bc.wo kv k).map fun q => .string q.1), .row g.2.1 g.2.2 3 1 (Bc.wo kv k).length ((Bc.wo kv k).map fun q => .int .i64 q.2)] ∧ True := by
  refine GC.calls Try.func27 rfl rfl (St.begin _) ?_
  have HK : kv.length = 0 ∨ ∃ b o, A = some ⟨b, o, none⟩ ∧ Cells w b o (kv.map fun q => .string q.1) := hK.imp (fun h => by simpa using congrArg List.length h) id
  have HV : kv.length = 0 ∨ ∃ b o, B = some ⟨b, o, none⟩ ∧ Cells w b o (kv.map fun q => .int .i64 q.2) := hV.imp (fun h => by simpa using congrArg List.length h) id
  refine GC.seq ?_
  refine GC.reg ?_
  refine GL.step (ot_box rfl rfl rfl fun b2 => ?_)
  refine GL.step (ot_alloc (zs := [.int .i64 0, .slice none 0 0, .slice none 0 0, .int .i64 0, .int .i64 0]) zb_27 rfl rfl fun b4 => ?_)
  refine GL.val (rv_assign rfl) rfl ?_
  refine GL.val (rv_assign rfl) rfl ?_
  refine GL.nil ?_
  refine GX.then ?_
  refine GC.seq ?_
  refine GC.reg ?_
  refine GL.val (rv_field fo_27_0 rfl rfl) rfl ?_
  refine GL.val (rv_load ag_3 rfl (by first | exact Hd.cell (k := 0) rfl rfl | exact Hd.cell (k := 1) rfl rfl | exact Hd.rowCell (k := 0) rfl (by assumption) | exact Hd.rowCell (k := 1) rfl (by assumption) | exact Hd.cell0 (by assumption) (by first | exact fun h => h | assumption))) rfl ?_
  refine GL.val (rv_field fo_27_3 rfl rfl) rfl ?_
  refine GL.val (rv_load ag_3 rfl (by first | exact Hd.cell (k := 0) rfl rfl | exact Hd.cell (k := 1) rfl rfl | exact Hd.rowCell (k := 0) rfl (by assumption) | exact Hd.rowCell (k := 1) rfl (by assumption) | exact Hd.cell0 (by assumption) (by first | exact fun h => h | assumption))) rfl ?_
  refine GL.val (rv_field fo_27_4 rfl rfl) rfl ?_
  refine GL.val (rv_load ag_3 rfl (by first | exact Hd.cell (k := 0) rfl rfl | exact Hd.cell (k := 1) rfl rfl | exact Hd.rowCell (k := 0) rfl (by assumption) | exact Hd.rowCell (k := 1) rfl (by assumption) | exact Hd.cell0 (by assumption) (by first | exact fun h => h | assumption))) rfl ?_
  refine GL.val (rv_buildS pl_27 zb_27 rfl rfl (by first | ((simp only [bldL, repl, List.set_cons_zero, List.set_cons_succ, List.getElem?_cons_zero, List.getElem?_cons_succ, Option.getD_some, Value.cells]) <;> rfl) | rfl)) rfl ?_
  refine GL.step (ot_alloc (zs := [.int .i64 0, .slice none 0 0, .slice none 0 0, .int .i64 0, .int .i64 0]) zb_27 rfl rfl fun b7 => ?_)
  first | refine GL.step (ot_store (k := 0) rfl rfl rfl rfl sz_27 rfl rfl (by first | ((simp only [repl, List.set_cons_zero, List.set_cons_succ]) <;> rfl) | rfl) ?_) | refine GL.step (ot_store (k := 1) rfl rfl rfl rfl sz_27 rfl rfl (by first | ((simp only [repl, List.set_cons_zero, List.set_cons_succ]) <;> rfl) | rfl) ?_) | refine GL.step (ot_store (k := 2) rfl rfl rfl rfl sz_27 rfl rfl (by first | ((simp only [repl, List.set_cons_zero, List.set_cons_succ]) <;> rfl) | rfl) ?_)
  refine GL.nil ?_
  refine GX.then ?_
  refine GC.seq ?_
  refine GC.reg ?_
  refine GL.val (rv_assign rfl) rfl ?_
  refine GL.nil ?_
  refine GX.then ?_
  refine GC.seq ?_
  refine GC.reg ?_
  refine GL.val (rv_assign rfl) rfl ?_
  refine GL.nil ?_
  refine GX.then ?_
  refine GC.seq ?_
  refine GC.seq ?_
  refine GC.reg ?_
  refine GL.val (rv_assign rfl) rfl ?_
  refine GL.nil ?_
  refine GX.then ?_
  refine GC.block ?_
  refine GC.loop (γ := Nat × (Option Addr × Nat) × (Option Addr × Nat)) (fun g => [(1, .string k), (2, .pointer (some ⟨b2, 0, none⟩)), (4, .pointer (some ⟨b4, 0, none⟩)), (7, .pointer (some ⟨b7, 0, none⟩)), (8, .int .i64 (Bc.vl (kv.take g.1) k)), (9, .bool (Bc.hs (kv.take g.1) k)), (10, .int .i64 (g.1 : Int))]) (fun g => [.row g.2.1.1 g.2.1.2 9 1 (Bc.wo (kv.take g.1) k).length ((Bc.wo (kv.take g.1) k).map fun q => .string q.1), .row g.2.2.1 g.2.2.2 3 1 (Bc.wo (kv.take g.1) k).length ((Bc.wo (kv.take g.1) k).map fun q => .int .i64 q.2), .cl b7 [.int .i64 m, .slice g.2.1.1 (Bc.wo (kv.take g.1) k).length g.2.1.2, .slice g.2.2.1 (Bc.wo (kv.take g.1) k).length g.2.2.2, .int .i64 h, .int .i64 s] 27, .cl b4 [.int .i64 0, .slice none 0 0, .slice none 0 0, .int .i64 0, .int .i64 0] 27, .cl b2 [.int .i64 m, .slice A kv.length c1, .slice B kv.length c2, .int .i64 h, .int .i64 s] 27]) (fun g => g.1 ≤ kv.length) (fun g => kv.length - g.1) ((0, (none, 0), (none, 0))) (Nat.zero_le _) (by repeat (first | exact Sub.nil | refine Sub.cons rfl ?_)) (fun w h => (h.nilRow 3 1).nilRow 9 1) (fun ⟨j, ⟨A9, c9⟩, ⟨B9, d9⟩⟩ hj => ?_)
  dsimp only at hj ⊢
  refine GC.seq ?_
  refine GC.seq ?_
  refine GC.reg ?_
  refine GL.val (rv_move rfl) rfl ?_
  refine GL.val (rv_field fo_27_1 rfl rfl) rfl ?_
  refine GL.val (rv_load ag_24 rfl (by first | exact Hd.cell (k := 0) rfl rfl | exact Hd.cell (k := 1) rfl rfl | exact Hd.cell (k := 2) rfl rfl | exact Hd.cell (k := 3) rfl rfl | exact Hd.cell (k := 4) rfl rfl | exact Hd.rowCell (k := 0) rfl (by assumption) | exact Hd.rowCell (k := 1) rfl (by assumption) | exact Hd.rowCell (k := 2) rfl (by assumption) | exact Hd.rowCell (k := 3) rfl (by assumption) | exact Hd.rowCell (k := 4) rfl (by assumption) | exact Hd.cell0 (by assumption) (by first | exact fun h => h | assumption))) rfl ?_
  refine GL.val (rv_lenSl Try.underlying24 rfl) rfl ?_
  refine GL.val (rv_lss rfl rfl) rfl ?_
  refine GL.nil ?_
  refine GX.then ?_
  first | refine GC.condP rfl (fun c1 => ?_) (fun c1 => ?_) | refine GC.cond rfl (fun c1 => ?_) (fun c1 => ?_)
  · have hlt : j < kv.length := by omega
    obtain ⟨bk, ok, rfl, hCK⟩ := HK.resolve_left (by omega)
    obtain ⟨bv, ov, rfl, hCV⟩ := HV.resolve_left (by omega)
    have hwl := Bc.wo_len (kv.take j) k
    rw [List.length_take, Nat.min_eq_left (by omega)] at hwl
    refine GC.skip ?_
    refine GX.then ?_
    refine GC.seq ?_
    refine GC.block ?_
    refine GC.seq ?_
    refine GC.seq ?_
    refine GC.reg ?_
    refine GL.val (rv_field fo_27_1 rfl rfl) rfl ?_
    refine GL.val (rv_load ag_24 rfl (by first | exact Hd.cell (k := 0) rfl rfl | exact Hd.cell (k := 1) rfl rfl | exact Hd.cell (k := 2) rfl rfl | exact Hd.cell (k := 3) rfl rfl | exact Hd.cell (k := 4) rfl rfl | exact Hd.rowCell (k := 0) rfl (by assumption) | exact Hd.rowCell (k := 1) rfl (by assumption) | exact Hd.rowCell (k := 2) rfl (by assumption) | exact Hd.rowCell (k := 3) rfl (by assumption) | exact Hd.rowCell (k := 4) rfl (by assumption) | exact Hd.cell0 (by assumption) (by first | exact fun h => h | assumption))) rfl ?_
    refine GL.val (rv_move rfl) rfl ?_
    refine GL.val (rv_elem es_24 rfl rfl (by omega) (by omega)) rfl ?_
    refine GL.val (rv_load ag_9 rfl (Hd.at0 (u := .string kv[j].1) hCK (fun h => h) (by simp [hlt]))) rfl ?_
    refine GL.val (rv_move rfl) rfl ?_
    refine GL.val (rv_eqS rfl rfl) rfl ?_
    refine GL.nil ?_
    refine GX.then ?_
    first | refine GC.condP rfl (fun c2 => ?_) (fun c2 => ?_) | refine GC.cond rfl (fun c2 => ?_) (fun c2 => ?_)
    · refine GC.seq ?_
      refine GC.reg ?_
      refine GL.val (rv_field fo_27_2 rfl rfl) rfl ?_
      refine GL.val (rv_load ag_25 rfl (by first | exact Hd.cell (k := 0) rfl rfl | exact Hd.cell (k := 1) rfl rfl | exact Hd.cell (k := 2) rfl rfl | exact Hd.cell (k := 3) rfl rfl | exact Hd.cell (k := 4) rfl rfl | exact Hd.rowCell (k := 0) rfl (by assumption) | exact Hd.rowCell (k := 1) rfl (by assumption) | exact Hd.rowCell (k := 2) rfl (by assumption) | exact Hd.rowCell (k := 3) rfl (by assumption) | exact Hd.rowCell (k := 4) rfl (by assumption) | exact Hd.cell0 (by assumption) (by first | exact fun h => h | assumption))) rfl ?_
      refine GL.val (rv_move rfl) rfl ?_
      refine GL.val (rv_elem es_25 rfl rfl (by omega) (by omega)) rfl ?_
      refine GL.val (rv_load ag_3 rfl (Hd.at0 (u := .int .i64 kv[j].2) hCV (fun h => h) (by simp [hlt]))) rfl ?_
      refine GL.val (rv_assign rfl) rfl ?_
      refine GL.nil ?_
      refine GX.then ?_
      refine GC.seq ?_
      refine GC.reg ?_
      refine GL.val (rv_assign rfl) rfl ?_
      refine GL.nil ?_
      refine GX.then ?_
      refine GC.exit ?_
      refine GX.then_exit ?_
      refine GX.blk_eq ?_
      refine GX.then ?_
      refine GC.reg ?_
      refine GL.val (rv_move rfl) rfl ?_
      refine GL.val (rv_add rfl rfl (by omega) (by omega)) rfl ?_
      refine GL.val (rv_assign rfl) rfl ?_
      refine GL.nil ?_
      exact GX.round (j + 1, (A9, c9), (B9, d9)) (by show _ - (j + 1) < _ - j; omega) (by show j + 1 ≤ _; omega) (by dsimp only; rw [Bc.vl_eq kv k j hlt c2, Bc.hs_eq kv k j hlt c2]; exact (by repeat (first | exact Sub.nil | refine Sub.cons rfl ?_))) (fun w h => by dsimp only; rw [Bc.wo_eq kv k j hlt c2]; exact h)
    · refine GC.skip ?_
      refine GX.then ?_
      refine GC.seq ?_
      refine GC.draw 10 [2, 4] mo_ ?_
      refine GD.pure (i := 0) rfl (fun _ _ => rv_field fo_27_1 rfl rfl) (by kernel_rfl) (by repeat (first | exact noPanicPut_body | exact noPanicPut_cut | exact noPanicPut_cutE | refine noPanicPut_then ?_ | refine noPanicPut_blk ?_)) ?_
      refine GD.pure (i := 2) rfl (fun _ _ => rv_field fo_27_1 rfl rfl) (by kernel_rfl) (by repeat (first | exact noPanicPut_body | exact noPanicPut_cut | exact noPanicPut_cutE | refine noPanicPut_then ?_ | refine noPanicPut_blk ?_)) ?_
      refine GD.pure (i := 4) rfl (fun _ _ => rv_move rfl) (by kernel_rfl) (by repeat (first | exact noPanicPut_body | exact noPanicPut_cut | exact noPanicPut_cutE | refine noPanicPut_then ?_ | refine noPanicPut_blk ?_)) ?_
      refine GD.read (i := 1) rfl (rv_load ag_24 rfl (by first | exact Hd.cell (k := 0) rfl rfl | exact Hd.cell (k := 1) rfl rfl | exact Hd.rowCell (k := 0) rfl (by assumption) | exact Hd.rowCell (k := 1) rfl (by assumption) | exact Hd.cell0 (by assumption) (by first | exact fun h => h | assumption))) (by kernel_rfl) (by repeat (first | exact noPanicPut_body | exact noPanicPut_cut | exact noPanicPut_cutE | refine noPanicPut_then ?_ | refine noPanicPut_blk ?_)) ?_
      refine GD.read (i := 3) rfl (rv_load ag_24 rfl (by first | exact Hd.cell (k := 0) rfl rfl | exact Hd.cell (k := 1) rfl rfl | exact Hd.rowCell (k := 0) rfl (by assumption) | exact Hd.rowCell (k := 1) rfl (by assumption) | exact Hd.cell0 (by assumption) (by first | exact fun h => h | assumption))) (by kernel_rfl) (by repeat (first | exact noPanicPut_body | exact noPanicPut_cut | exact noPanicPut_cutE | refine noPanicPut_then ?_ | refine noPanicPut_blk ?_)) ?_
      refine GD.pure (i := 5) rfl (fun _ _ => rv_elem es_24 rfl rfl (by omega) (by omega)) (by kernel_rfl) (by repeat (first | exact noPanicPut_body | exact noPanicPut_cut | exact noPanicPut_cutE | refine noPanicPut_then ?_ | refine noPanicPut_blk ?_)) ?_
      refine GD.read (i := 6) rfl (rv_load ag_9 rfl (Hd.at0 (u := .string kv[j].1) hCK (fun h => h) (by simp [hlt]))) (by kernel_rfl) (by repeat (first | exact noPanicPut_body | exact noPanicPut_cut | exact noPanicPut_cutE | refine noPanicPut_then ?_ | refine noPanicPut_blk ?_)) ?_
      refine GD.step (i := 7) (by kernel_rfl) rfl (ot_buildSlice ei_24 rfl rfl rfl rfl rfl rfl fun b44 => ⟨.inr fun _ h => h.pk [3, 5], ?_⟩)
      first | refine GD.step (i := 8) (by kernel_rfl) rfl (ot_append (k := 1) ei_24 rfl rfl rfl (by rfl) (fun w h => .inr ⟨_, _, rfl, Hd.cellsAll (k := 0) rfl w h⟩) (by rfl) (by omega) (by decide) rfl fun A45 c45 z45 => ⟨.inr fun _ h => h.pk [3, 5], ?_⟩) | refine GD.step (i := 8) (by kernel_rfl) rfl (ot_append (k := 2) ei_24 rfl rfl rfl (by rfl) (fun w h => .inr ⟨_, _, rfl, Hd.cellsAll (k := 0) rfl w h⟩) (by rfl) (by omega) (by decide) rfl fun A45 c45 z45 => ⟨.inr fun _ h => h.pk [3, 5], ?_⟩) | refine GD.step (i := 8) (by kernel_rfl) rfl (ot_append (k := 3) ei_24 rfl rfl rfl (by rfl) (fun w h => .inr ⟨_, _, rfl, Hd.cellsAll (k := 0) rfl w h⟩) (by rfl) (by omega) (by decide) rfl fun A45 c45 z45 => ⟨.inr fun _ h => h.pk [3, 5], ?_⟩) | refine GD.step (i := 8) (by kernel_rfl) rfl (ot_append (k := 4) ei_24 rfl rfl rfl (by rfl) (fun w h => .inr ⟨_, _, rfl, Hd.cellsAll (k := 0) rfl w h⟩) (by rfl) (by omega) (by decide) rfl fun A45 c45 z45 => ⟨.inr fun _ h => h.pk [3, 5], ?_⟩) | refine GD.step (i := 8) (by kernel_rfl) rfl (ot_append (k := 5) ei_24 rfl rfl rfl (by rfl) (fun w h => .inr ⟨_, _, rfl, Hd.cellsAll (k := 0) rfl w h⟩) (by rfl) (by omega) (by decide) rfl fun A45 c45 z45 => ⟨.inr fun _ h => h.pk [3, 5], ?_⟩) | refine GD.step (i := 8) (by kernel_rfl) rfl (ot_append (k := 0) ei_24 rfl rfl rfl (by rfl) (fun w h => .inr ⟨_, _, rfl, Hd.cellsAll (k := 1) rfl w h⟩) (by rfl) (by omega) (by decide) rfl fun A45 c45 z45 => ⟨.inr fun _ h => h.pk [3, 5], ?_⟩) | refine GD.step (i := 8) (by kernel_rfl) rfl (ot_append (k := 2) ei_24 rfl rfl rfl (by rfl) (fun w h => .inr ⟨_, _, rfl, Hd.cellsAll (k := 1) rfl w h⟩) (by rfl) (by omega) (by decide) rfl fun A45 c45 z45 => ⟨.inr fun _ h => h.pk [3, 5], ?_⟩) | refine GD.step (i := 8) (by kernel_rfl) rfl (ot_append (k := 3) ei_24 rfl rfl rfl (by rfl) (fun w h => .inr ⟨_, _, rfl, Hd.cellsAll (k := 1) rfl w h⟩) (by rfl) (by omega) (by decide) rfl fun A45 c45 z45 => ⟨.inr fun _ h => h.pk [3, 5], ?_⟩) | refine GD.step (i := 8) (by kernel_rfl) rfl (ot_append (k := 4) ei_24 rfl rfl rfl (by rfl) (fun w h => .inr ⟨_, _, rfl, Hd.cellsAll (k := 1) rfl w h⟩) (by rfl) (by omega) (by decide) rfl fun A45 c45 z45 => ⟨.inr fun _ h => h.pk [3, 5], ?_⟩) | refine GD.step (i := 8) (by kernel_rfl) rfl (ot_append (k := 5) ei_24 rfl rfl rfl (by rfl) (fun w h => .inr ⟨_, _, rfl, Hd.cellsAll (k := 1) rfl w h⟩) (by rfl) (by omega) (by decide) rfl fun A45 c45 z45 => ⟨.inr fun _ h => h.pk [3, 5], ?_⟩)
      refine GD.pure (i := 9) rfl (fun _ _ => rv_field fo_27_1 rfl rfl) (by kernel_rfl) (by repeat (first | exact noPanicPut_body | exact noPanicPut_cut | exact noPanicPut_cutE | refine noPanicPut_then ?_ | refine noPanicPut_blk ?_)) ?_
      first | refine GD.step (i := 10) (by kernel_rfl) rfl (ot_store (k := 0) rfl rfl rfl rfl sz_24 rfl rfl (by first | ((simp only [repl, List.set_cons_zero, List.set_cons_succ]) <;> rfl) | rfl) ⟨.inl rfl, ?_⟩) | refine GD.step (i := 10) (by kernel_rfl) rfl (ot_store (k := 1) rfl rfl rfl rfl sz_24 rfl rfl (by first | ((simp only [repl, List.set_cons_zero, List.set_cons_succ]) <;> rfl) | rfl) ⟨.inl rfl, ?_⟩) | refine GD.step (i := 10) (by kernel_rfl) rfl (ot_store (k := 2) rfl rfl rfl rfl sz_24 rfl rfl (by first | ((simp only [repl, List.set_cons_zero, List.set_cons_succ]) <;> rfl) | rfl) ⟨.inl rfl, ?_⟩) | refine GD.step (i := 10) (by kernel_rfl) rfl (ot_store (k := 3) rfl rfl rfl rfl sz_24 rfl rfl (by first | ((simp only [repl, List.set_cons_zero, List.set_cons_succ]) <;> rfl) | rfl) ⟨.inl rfl, ?_⟩) | refine GD.step (i := 10) (by kernel_rfl) rfl (ot_store (k := 4) rfl rfl rfl rfl sz_24 rfl rfl (by first | ((simp only [repl, List.set_cons_zero, List.set_cons_succ]) <;> rfl) | rfl) ⟨.inl rfl, ?_⟩) | refine GD.step (i := 10) (by kernel_rfl) rfl (ot_store (k := 5) rfl rfl rfl rfl sz_24 rfl rfl (by first | ((simp only [repl, List.set_cons_zero, List.set_cons_succ]) <;> rfl) | rfl) ⟨.inl rfl, ?_⟩)
      refine GD.done (by kernel_rfl) ?_
      refine GX.then ?_
      refine GC.draw 10 [3, 5] mo_ ?_
      refine GD.pure (i := 0) rfl (fun _ _ => rv_field fo_27_2 rfl rfl) (by kernel_rfl) (by repeat (first | exact noPanicPut_body | exact noPanicPut_cut | exact noPanicPut_cutE | refine noPanicPut_then ?_ | refine noPanicPut_blk ?_)) ?_
      refine GD.pure (i := 2) rfl (fun _ _ => rv_field fo_27_2 rfl rfl) (by kernel_rfl) (by repeat (first | exact noPanicPut_body | exact noPanicPut_cut | exact noPanicPut_cutE | refine noPanicPut_then ?_ | refine noPanicPut_blk ?_)) ?_
      refine GD.pure (i := 4) rfl (fun _ _ => rv_move rfl) (by kernel_rfl) (by repeat (first | exact noPanicPut_body | exact noPanicPut_cut | exact noPanicPut_cutE | refine noPanicPut_then ?_ | refine noPanicPut_blk ?_)) ?_
      refine GD.read (i := 1) rfl (rv_load ag_25 rfl (by first | exact Hd.cell (k := 0) rfl rfl | exact Hd.cell (k := 1) rfl rfl | exact Hd.rowCell (k := 0) rfl (by assumption) | exact Hd.rowCell (k := 1) rfl (by assumption) | exact Hd.cell0 (by assumption) (by first | exact fun h => h | assumption))) (by kernel_rfl) (by repeat (first | exact noPanicPut_body | exact noPanicPut_cut | exact noPanicPut_cutE | refine noPanicPut_then ?_ | refine noPanicPut_blk ?_)) ?_
      refine GD.read (i := 3) rfl (rv_load ag_25 rfl (by first | exact Hd.cell (k := 0) rfl rfl | exact Hd.cell (k := 1) rfl rfl | exact Hd.rowCell (k := 0) rfl (by assumption) | exact Hd.rowCell (k := 1) rfl (by assumption) | exact Hd.cell0 (by assumption) (by first | exact fun h => h | assumption))) (by kernel_rfl) (by repeat (first | exact noPanicPut_body | exact noPanicPut_cut | exact noPanicPut_cutE | refine noPanicPut_then ?_ | refine noPanicPut_blk ?_)) ?_
      refine GD.pure (i := 5) rfl (fun _ _ => rv_elem es_25 rfl rfl (by omega) (by omega)) (by kernel_rfl) (by repeat (first | exact noPanicPut_body | exact noPanicPut_cut | exact noPanicPut_cutE | refine noPanicPut_then ?_ | refine noPanicPut_blk ?_)) ?_
      refine GD.read (i := 6) rfl (rv_load ag_3 rfl (Hd.at0 (u := .int .i64 kv[j].2) hCV (fun h => h) (by simp [hlt]))) (by kernel_rfl) (by repeat (first | exact noPanicPut_body | exact noPanicPut_cut | exact noPanicPut_cutE | refine noPanicPut_then ?_ | refine noPanicPut_blk ?_)) ?_
      refine GD.step (i := 7) (by kernel_rfl) rfl (ot_buildSlice ei_25 rfl rfl rfl rfl rfl rfl fun b54 => ⟨.inr fun _ h => h.pk [4, 6], ?_⟩)
      first | refine GD.step (i := 8) (by kernel_rfl) rfl (ot_append (k := 1) ei_25 rfl rfl rfl (by rfl) (fun w h => .inr ⟨_, _, rfl, Hd.cellsAll (k := 0) rfl w h⟩) (by rfl) (by omega) (by decide) rfl fun A55 c55 z55 => ⟨.inr fun _ h => h.pk [4, 6], ?_⟩) | refine GD.step (i := 8) (by kernel_rfl) rfl (ot_append (k := 2) ei_25 rfl rfl rfl (by rfl) (fun w h => .inr ⟨_, _, rfl, Hd.cellsAll (k := 0) rfl w h⟩) (by rfl) (by omega) (by decide) rfl fun A55 c55 z55 => ⟨.inr fun _ h => h.pk [4, 6], ?_⟩) | refine GD.step (i := 8) (by kernel_rfl) rfl (ot_append (k := 3) ei_25 rfl rfl rfl (by rfl) (fun w h => .inr ⟨_, _, rfl, Hd.cellsAll (k := 0) rfl w h⟩) (by rfl) (by omega) (by decide) rfl fun A55 c55 z55 => ⟨.inr fun _ h => h.pk [4, 6], ?_⟩) | refine GD.step (i := 8) (by kernel_rfl) rfl (ot_append (k := 4) ei_25 rfl rfl rfl (by rfl) (fun w h => .inr ⟨_, _, rfl, Hd.cellsAll (k := 0) rfl w h⟩) (by rfl) (by omega) (by decide) rfl fun A55 c55 z55 => ⟨.inr fun _ h => h.pk [4, 6], ?_⟩) | refine GD.step (i := 8) (by kernel_rfl) rfl (ot_append (k := 5) ei_25 rfl rfl rfl (by rfl) (fun w h => .inr ⟨_, _, rfl, Hd.cellsAll (k := 0) rfl w h⟩) (by rfl) (by omega) (by decide) rfl fun A55 c55 z55 => ⟨.inr fun _ h => h.pk [4, 6], ?_⟩) | refine GD.step (i := 8) (by kernel_rfl) rfl (ot_append (k := 6) ei_25 rfl rfl rfl (by rfl) (fun w h => .inr ⟨_, _, rfl, Hd.cellsAll (k := 0) rfl w h⟩) (by rfl) (by omega) (by decide) rfl fun A55 c55 z55 => ⟨.inr fun _ h => h.pk [4, 6], ?_⟩) | refine GD.step (i := 8) (by kernel_rfl) rfl (ot_append (k := 0) ei_25 rfl rfl rfl (by rfl) (fun w h => .inr ⟨_, _, rfl, Hd.cellsAll (k := 1) rfl w h⟩) (by rfl) (by omega) (by decide) rfl fun A55 c55 z55 => ⟨.inr fun _ h => h.pk [4, 6], ?_⟩) | refine GD.step (i := 8) (by kernel_rfl) rfl (ot_append (k := 2) ei_25 rfl rfl rfl (by rfl) (fun w h => .inr ⟨_, _, rfl, Hd.cellsAll (k := 1) rfl w h⟩) (by rfl) (by omega) (by decide) rfl fun A55 c55 z55 => ⟨.inr fun _ h => h.pk [4, 6], ?_⟩) | refine GD.step (i := 8) (by kernel_rfl) rfl (ot_append (k := 3) ei_25 rfl rfl rfl (by rfl) (fun w h => .inr ⟨_, _, rfl, Hd.cellsAll (k := 1) rfl w h⟩) (by rfl) (by omega) (by decide) rfl fun A55 c55 z55 => ⟨.inr fun _ h => h.pk [4, 6], ?_⟩) | refine GD.step (i := 8) (by kernel_rfl) rfl (ot_append (k := 4) ei_25 rfl rfl rfl (by rfl) (fun w h => .inr ⟨_, _, rfl, Hd.cellsAll (k := 1) rfl w h⟩) (by rfl) (by omega) (by decide) rfl fun A55 c55 z55 => ⟨.inr fun _ h => h.pk [4, 6], ?_⟩) | refine GD.step (i := 8) (by kernel_rfl) rfl (ot_append (k := 5) ei_25 rfl rfl rfl (by rfl) (fun w h => .inr ⟨_, _, rfl, Hd.cellsAll (k := 1) rfl w h⟩) (by rfl) (by omega) (by decide) rfl fun A55 c55 z55 => ⟨.inr fun _ h => h.pk [4, 6], ?_⟩) | refine GD.step (i := 8) (by kernel_rfl) rfl (ot_append (k := 6) ei_25 rfl rfl rfl (by rfl) (fun w h => .inr ⟨_, _, rfl, Hd.cellsAll (k := 1) rfl w h⟩) (by rfl) (by omega) (by decide) rfl fun A55 c55 z55 => ⟨.inr fun _ h => h.pk [4, 6], ?_⟩)
      refine GD.pure (i := 9) rfl (fun _ _ => rv_field fo_27_2 rfl rfl) (by kernel_rfl) (by repeat (first | exact noPanicPut_body | exact noPanicPut_cut | exact noPanicPut_cutE | refine noPanicPut_then ?_ | refine noPanicPut_blk ?_)) ?_
      first | refine GD.step (i := 10) (by kernel_rfl) rfl (ot_store (k := 0) rfl rfl rfl rfl sz_25 rfl rfl (by first | ((simp only [repl, List.set_cons_zero, List.set_cons_succ]) <;> rfl) | rfl) ⟨.inl rfl, ?_⟩) | refine GD.step (i := 10) (by kernel_rfl) rfl (ot_store (k := 1) rfl rfl rfl rfl sz_25 rfl rfl (by first | ((simp only [repl, List.set_cons_zero, List.set_cons_succ]) <;> rfl) | rfl) ⟨.inl rfl, ?_⟩) | refine GD.step (i := 10) (by kernel_rfl) rfl (ot_store (k := 2) rfl rfl rfl rfl sz_25 rfl rfl (by first | ((simp only [repl, List.set_cons_zero, List.set_cons_succ]) <;> rfl) | rfl) ⟨.inl rfl, ?_⟩) | refine GD.step (i := 10) (by kernel_rfl) rfl (ot_store (k := 3) rfl rfl rfl rfl sz_25 rfl rfl (by first | ((simp only [repl, List.set_cons_zero, List.set_cons_succ]) <;> rfl) | rfl) ⟨.inl rfl, ?_⟩) | refine GD.step (i := 10) (by kernel_rfl) rfl (ot_store (k := 4) rfl rfl rfl rfl sz_25 rfl rfl (by first | ((simp only [repl, List.set_cons_zero, List.set_cons_succ]) <;> rfl) | rfl) ⟨.inl rfl, ?_⟩) | refine GD.step (i := 10) (by kernel_rfl) rfl (ot_store (k := 5) rfl rfl rfl rfl sz_25 rfl rfl (by first | ((simp only [repl, List.set_cons_zero, List.set_cons_succ]) <;> rfl) | rfl) ⟨.inl rfl, ?_⟩) | refine GD.step (i := 10) (by kernel_rfl) rfl (ot_store (k := 6) rfl rfl rfl rfl sz_25 rfl rfl (by first | ((simp only [repl, List.set_cons_zero, List.set_cons_succ]) <;> rfl) | rfl) ⟨.inl rfl, ?_⟩)
      refine GD.done (by kernel_rfl) ?_
      refine GX.blk ?_
      refine GX.then ?_
      refine GC.reg ?_
      refine GL.val (rv_move rfl) rfl ?_
      refine GL.val (rv_add rfl rfl (by omega) (by omega)) rfl ?_
      refine GL.val (rv_assign rfl) rfl ?_
      refine GL.nil ?_
      exact GX.round (j + 1, (A45, c45), (A55, c55)) (by show _ - (j + 1) < _ - j; omega) (by show j + 1 ≤ _; omega) (by dsimp only; rw [Bc.vl_ne kv k j hlt c2, Bc.hs_ne kv k j hlt c2]; exact (by repeat (first | exact Sub.nil | refine Sub.cons rfl ?_))) (fun w h => by dsimp only; rw [Bc.wo_ne kv k j hlt c2]; simpa [Value.cells] using (h.drop 0).drop 0)
  · obtain rfl : j = kv.length := by omega
    rw [List.take_length]
    refine GC.exit ?_
    refine GX.then_exit ?_
    refine GX.then_exit ?_
    refine GX.blk_eq ?_
    refine GX.then ?_
    refine GC.seq ?_
    refine GC.reg ?_
    refine GL.val (rv_loadA ag_27 rfl (by first | exact Hd.cellsAll (k := 0) rfl | exact Hd.cellsAll (k := 1) rfl | exact Hd.cellsAll (k := 2) rfl | exact Hd.cellsAll (k := 3) rfl | exact Hd.cellsAll (k := 4) rfl | exact Hd.cells0 (by assumption) (by first | exact fun h => h | assumption)) (by exact sz_27)) rfl ?_
    refine GL.val (rv_move rfl) rfl ?_
    refine GL.val (rv_move rfl) rfl ?_
    first | refine GL.step (ot_store (k := 0) rfl rfl rfl rfl sz_27 rfl rfl (by first | ((simp only [repl, List.set_cons_zero, List.set_cons_succ]) <;> rfl) | rfl) ?_) | refine GL.step (ot_store (k := 1) rfl rfl rfl rfl sz_27 rfl rfl (by first | ((simp only [repl, List.set_cons_zero, List.set_cons_succ]) <;> rfl) | rfl) ?_) | refine GL.step (ot_store (k := 2) rfl rfl rfl rfl sz_27 rfl rfl (by first | ((simp only [repl, List.set_cons_zero, List.set_cons_succ]) <;> rfl) | rfl) ?_) | refine GL.step (ot_store (k := 3) rfl rfl rfl rfl sz_27 rfl rfl (by first | ((simp only [repl, List.set_cons_zero, List.set_cons_succ]) <;> rfl) | rfl) ?_) | refine GL.step (ot_store (k := 4) rfl rfl rfl rfl sz_27 rfl rfl (by first | ((simp only [repl, List.set_cons_zero, List.set_cons_succ]) <;> rfl) | rfl) ?_)
    refine GL.val (rv_assign rfl) rfl ?_
    refine GL.val (rv_assign rfl) rfl ?_
    refine GL.nil ?_
    refine GX.then ?_
    refine GC.ret ?_
    refine GX.ret3 rfl (RR.cell ag_27 rfl (by first | exact Hd.cellsAll (k := 0) rfl | exact Hd.cellsAll (k := 1) rfl | exact Hd.cellsAll (k := 2) rfl | exact Hd.cellsAll (k := 3) rfl | exact Hd.cellsAll (k := 4) rfl | exact Hd.cells0 (by assumption) (by first | exact fun h => h | assumption)) (by exact sz_27)) (RR.tmp rfl) (RR.tmp rfl) ?_
    exact fun w h => ⟨((A9, c9), (B9, d9)), rfl, h.take 2, trivial⟩
end Go.Proofs.Ytjbnblkefhpibaa
