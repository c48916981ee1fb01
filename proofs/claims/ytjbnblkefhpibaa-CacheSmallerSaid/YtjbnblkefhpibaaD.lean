import Derived.Test.YtjbnblkefhpibaaC
set_option linter.unusedVariables false
set_option linter.unusedSimpArgs false
namespace Go.Proofs.Ytjbnblkefhpibaa
open Go Go.RowKit Go.Bz
theorem hb_27 : hasBody Try.prog 27 = true := by kernel_rfl
theorem hb_28 : hasBody Try.prog 28 = true := by kernel_rfl
theorem pl_55 : placesB Try.prog 55 = some [(0, 1), (1, 1), (2, 1), (3, 1), (4, 1)] := by kernel_rfl
theorem zb_55 : zeroB Try.prog 55 = some (.agg #[.int .i64 0, .slice none 0 0, .slice none 0 0, .int .i64 0, .int .i64 0]) := by kernel_rfl
set_option maxRecDepth 100000 in
set_option maxHeartbeats 1000000 in
theorem behind_c (m v h s : Int) (k : ByteArray) (A B : Option Addr) (c1 c2 : Nat) (kv : Bc.KV) (w : World) (S : Nat → Prop)
    (hA : (grp [.row A c1 9 1 kv.length (kv.map fun q => .string q.1), .row B c2 3 1 kv.length (kv.map fun q => .int .i64 q.2)]).A S w) (hb : ∀ b, S b → b < w.heap.size) (hn : kv.length ≤ 100000) :
    Calls Try.prog 28 [.agg #[.int .i64 m, .slice A kv.length c1, .slice B kv.length c2, .int .i64 h, .int .i64 s], .string k, .int .i64 v].toArray w fun e w' => ∃ g : (Option Addr × Nat) × (Option Addr × Nat), e = .returned (.agg #[.int .i64 m, .slice g.1.1 (kv ++ [(k, v)]).length g.1.2, .slice g.2.1 (kv ++ [(k, v)]).length g.2.2, .int .i64 h, .int .i64 s]) ∧ St S w w' [.row g.1.1 g.1.2 9 1 (kv ++ [(k, v)]).length ((kv ++ [(k, v)]).map fun q => .string q.1), .row g.2.1 g.2.2 3 1 (kv ++ [(k, v)]).length ((kv ++ [(k, v)]).map fun q => .int .i64 q.2)] ∧ True := by
  refine GC.calls Try.func28 rfl rfl (St.begin1 hA hb) ?_
  refine GC.st (fun w h => h.ungrp) ?_
  refine GC.seq ?_
  refine GC.reg ?_
  refine GL.step (ot_box rfl rfl rfl fun b3 => ?_)
  refine GL.step (ot_alloc (zs := [.int .i64 0, .slice none 0 0, .slice none 0 0, .int .i64 0, .int .i64 0]) zb_27 rfl rfl fun b6 => ?_)
  refine GL.nil ?_
  refine GX.then ?_
  refine GC.seq ?_
  refine GC.reg ?_
  refine GL.val (rv_field fo_27_1 rfl rfl) rfl ?_
  refine GL.val (rv_load ag_24 rfl (by first | exact Hd.cell (k := 0) rfl rfl | exact Hd.cell (k := 1) rfl rfl | exact Hd.cell (k := 2) rfl rfl | exact Hd.cell (k := 3) rfl rfl | exact Hd.rowCell (k := 0) rfl (by assumption) | exact Hd.rowCell (k := 1) rfl (by assumption) | exact Hd.rowCell (k := 2) rfl (by assumption) | exact Hd.rowCell (k := 3) rfl (by assumption) | exact Hd.cell0 (by assumption) (by first | exact fun h => h | assumption))) rfl ?_
  refine GL.val (rv_move rfl) rfl ?_
  refine GL.step (ot_buildSlice ei_24 rfl rfl rfl rfl rfl rfl fun b10 => ?_)
  first | refine GL.step (ot_append (k := 1) ei_24 rfl rfl rfl (by rfl) (fun w h => .inr ⟨_, _, rfl, Hd.cellsAll (k := 0) rfl w h⟩) (by rfl) (by omega) (by decide) rfl fun A11 c11 z11 => ?_) | refine GL.step (ot_append (k := 2) ei_24 rfl rfl rfl (by rfl) (fun w h => .inr ⟨_, _, rfl, Hd.cellsAll (k := 0) rfl w h⟩) (by rfl) (by omega) (by decide) rfl fun A11 c11 z11 => ?_) | refine GL.step (ot_append (k := 3) ei_24 rfl rfl rfl (by rfl) (fun w h => .inr ⟨_, _, rfl, Hd.cellsAll (k := 0) rfl w h⟩) (by rfl) (by omega) (by decide) rfl fun A11 c11 z11 => ?_) | refine GL.step (ot_append (k := 4) ei_24 rfl rfl rfl (by rfl) (fun w h => .inr ⟨_, _, rfl, Hd.cellsAll (k := 0) rfl w h⟩) (by rfl) (by omega) (by decide) rfl fun A11 c11 z11 => ?_) | refine GL.step (ot_append (k := 0) ei_24 rfl rfl rfl (by rfl) (fun w h => .inr ⟨_, _, rfl, Hd.cellsAll (k := 1) rfl w h⟩) (by rfl) (by omega) (by decide) rfl fun A11 c11 z11 => ?_) | refine GL.step (ot_append (k := 2) ei_24 rfl rfl rfl (by rfl) (fun w h => .inr ⟨_, _, rfl, Hd.cellsAll (k := 1) rfl w h⟩) (by rfl) (by omega) (by decide) rfl fun A11 c11 z11 => ?_) | refine GL.step (ot_append (k := 3) ei_24 rfl rfl rfl (by rfl) (fun w h => .inr ⟨_, _, rfl, Hd.cellsAll (k := 1) rfl w h⟩) (by rfl) (by omega) (by decide) rfl fun A11 c11 z11 => ?_) | refine GL.step (ot_append (k := 4) ei_24 rfl rfl rfl (by rfl) (fun w h => .inr ⟨_, _, rfl, Hd.cellsAll (k := 1) rfl w h⟩) (by rfl) (by omega) (by decide) rfl fun A11 c11 z11 => ?_)
  refine GL.val (rv_field fo_27_1 rfl rfl) rfl ?_
  first | refine GL.step (ot_store (k := 0) rfl rfl rfl rfl sz_24 rfl rfl (by first | ((simp only [repl, List.set_cons_zero, List.set_cons_succ]) <;> rfl) | rfl) ?_) | refine GL.step (ot_store (k := 1) rfl rfl rfl rfl sz_24 rfl rfl (by first | ((simp only [repl, List.set_cons_zero, List.set_cons_succ]) <;> rfl) | rfl) ?_) | refine GL.step (ot_store (k := 2) rfl rfl rfl rfl sz_24 rfl rfl (by first | ((simp only [repl, List.set_cons_zero, List.set_cons_succ]) <;> rfl) | rfl) ?_) | refine GL.step (ot_store (k := 3) rfl rfl rfl rfl sz_24 rfl rfl (by first | ((simp only [repl, List.set_cons_zero, List.set_cons_succ]) <;> rfl) | rfl) ?_) | refine GL.step (ot_store (k := 4) rfl rfl rfl rfl sz_24 rfl rfl (by first | ((simp only [repl, List.set_cons_zero, List.set_cons_succ]) <;> rfl) | rfl) ?_)
  refine GL.nil ?_
  refine GX.then ?_
  refine GC.seq ?_
  refine GC.reg ?_
  refine GL.val (rv_field fo_27_2 rfl rfl) rfl ?_
  refine GL.val (rv_load ag_25 rfl (by first | exact Hd.cell (k := 0) rfl rfl | exact Hd.cell (k := 1) rfl rfl | exact Hd.cell (k := 2) rfl rfl | exact Hd.cell (k := 3) rfl rfl | exact Hd.cell (k := 4) rfl rfl | exact Hd.rowCell (k := 0) rfl (by assumption) | exact Hd.rowCell (k := 1) rfl (by assumption) | exact Hd.rowCell (k := 2) rfl (by assumption) | exact Hd.rowCell (k := 3) rfl (by assumption) | exact Hd.rowCell (k := 4) rfl (by assumption) | exact Hd.cell0 (by assumption) (by first | exact fun h => h | assumption))) rfl ?_
  refine GL.val (rv_move rfl) rfl ?_
  refine GL.step (ot_buildSlice ei_25 rfl rfl rfl rfl rfl rfl fun b16 => ?_)
  first | refine GL.step (ot_append (k := 1) ei_25 rfl rfl rfl (by rfl) (fun w h => .inr ⟨_, _, rfl, Hd.cellsAll (k := 0) rfl w h⟩) (by rfl) (by omega) (by decide) rfl fun A17 c17 z17 => ?_) | refine GL.step (ot_append (k := 2) ei_25 rfl rfl rfl (by rfl) (fun w h => .inr ⟨_, _, rfl, Hd.cellsAll (k := 0) rfl w h⟩) (by rfl) (by omega) (by decide) rfl fun A17 c17 z17 => ?_) | refine GL.step (ot_append (k := 3) ei_25 rfl rfl rfl (by rfl) (fun w h => .inr ⟨_, _, rfl, Hd.cellsAll (k := 0) rfl w h⟩) (by rfl) (by omega) (by decide) rfl fun A17 c17 z17 => ?_) | refine GL.step (ot_append (k := 4) ei_25 rfl rfl rfl (by rfl) (fun w h => .inr ⟨_, _, rfl, Hd.cellsAll (k := 0) rfl w h⟩) (by rfl) (by omega) (by decide) rfl fun A17 c17 z17 => ?_) | refine GL.step (ot_append (k := 5) ei_25 rfl rfl rfl (by rfl) (fun w h => .inr ⟨_, _, rfl, Hd.cellsAll (k := 0) rfl w h⟩) (by rfl) (by omega) (by decide) rfl fun A17 c17 z17 => ?_) | refine GL.step (ot_append (k := 0) ei_25 rfl rfl rfl (by rfl) (fun w h => .inr ⟨_, _, rfl, Hd.cellsAll (k := 1) rfl w h⟩) (by rfl) (by omega) (by decide) rfl fun A17 c17 z17 => ?_) | refine GL.step (ot_append (k := 2) ei_25 rfl rfl rfl (by rfl) (fun w h => .inr ⟨_, _, rfl, Hd.cellsAll (k := 1) rfl w h⟩) (by rfl) (by omega) (by decide) rfl fun A17 c17 z17 => ?_) | refine GL.step (ot_append (k := 3) ei_25 rfl rfl rfl (by rfl) (fun w h => .inr ⟨_, _, rfl, Hd.cellsAll (k := 1) rfl w h⟩) (by rfl) (by omega) (by decide) rfl fun A17 c17 z17 => ?_) | refine GL.step (ot_append (k := 4) ei_25 rfl rfl rfl (by rfl) (fun w h => .inr ⟨_, _, rfl, Hd.cellsAll (k := 1) rfl w h⟩) (by rfl) (by omega) (by decide) rfl fun A17 c17 z17 => ?_) | refine GL.step (ot_append (k := 5) ei_25 rfl rfl rfl (by rfl) (fun w h => .inr ⟨_, _, rfl, Hd.cellsAll (k := 1) rfl w h⟩) (by rfl) (by omega) (by decide) rfl fun A17 c17 z17 => ?_)
  refine GL.val (rv_field fo_27_2 rfl rfl) rfl ?_
  first | refine GL.step (ot_store (k := 0) rfl rfl rfl rfl sz_25 rfl rfl (by first | ((simp only [repl, List.set_cons_zero, List.set_cons_succ]) <;> rfl) | rfl) ?_) | refine GL.step (ot_store (k := 1) rfl rfl rfl rfl sz_25 rfl rfl (by first | ((simp only [repl, List.set_cons_zero, List.set_cons_succ]) <;> rfl) | rfl) ?_) | refine GL.step (ot_store (k := 2) rfl rfl rfl rfl sz_25 rfl rfl (by first | ((simp only [repl, List.set_cons_zero, List.set_cons_succ]) <;> rfl) | rfl) ?_) | refine GL.step (ot_store (k := 3) rfl rfl rfl rfl sz_25 rfl rfl (by first | ((simp only [repl, List.set_cons_zero, List.set_cons_succ]) <;> rfl) | rfl) ?_) | refine GL.step (ot_store (k := 4) rfl rfl rfl rfl sz_25 rfl rfl (by first | ((simp only [repl, List.set_cons_zero, List.set_cons_succ]) <;> rfl) | rfl) ?_) | refine GL.step (ot_store (k := 5) rfl rfl rfl rfl sz_25 rfl rfl (by first | ((simp only [repl, List.set_cons_zero, List.set_cons_succ]) <;> rfl) | rfl) ?_)
  refine GL.nil ?_
  refine GX.then ?_
  refine GC.seq ?_
  refine GC.reg ?_
  refine GL.val (rv_loadA ag_27 rfl (by first | exact Hd.cellsAll (k := 0) rfl | exact Hd.cellsAll (k := 1) rfl | exact Hd.cellsAll (k := 2) rfl | exact Hd.cellsAll (k := 3) rfl | exact Hd.cellsAll (k := 4) rfl | exact Hd.cellsAll (k := 5) rfl | exact Hd.cells0 (by assumption) (by first | exact fun h => h | assumption)) (by exact sz_27)) rfl ?_
  first | refine GL.step (ot_store (k := 0) rfl rfl rfl rfl sz_27 rfl rfl (by first | ((simp only [repl, List.set_cons_zero, List.set_cons_succ]) <;> rfl) | rfl) ?_) | refine GL.step (ot_store (k := 1) rfl rfl rfl rfl sz_27 rfl rfl (by first | ((simp only [repl, List.set_cons_zero, List.set_cons_succ]) <;> rfl) | rfl) ?_) | refine GL.step (ot_store (k := 2) rfl rfl rfl rfl sz_27 rfl rfl (by first | ((simp only [repl, List.set_cons_zero, List.set_cons_succ]) <;> rfl) | rfl) ?_) | refine GL.step (ot_store (k := 3) rfl rfl rfl rfl sz_27 rfl rfl (by first | ((simp only [repl, List.set_cons_zero, List.set_cons_succ]) <;> rfl) | rfl) ?_) | refine GL.step (ot_store (k := 4) rfl rfl rfl rfl sz_27 rfl rfl (by first | ((simp only [repl, List.set_cons_zero, List.set_cons_succ]) <;> rfl) | rfl) ?_) | refine GL.step (ot_store (k := 5) rfl rfl rfl rfl sz_27 rfl rfl (by first | ((simp only [repl, List.set_cons_zero, List.set_cons_succ]) <;> rfl) | rfl) ?_)
  refine GL.nil ?_
  refine GX.then ?_
  refine GC.ret ?_
  refine GX.ret1 rfl (RR.cell ag_27 rfl (by first | exact Hd.cellsAll (k := 0) rfl | exact Hd.cellsAll (k := 1) rfl | exact Hd.cellsAll (k := 2) rfl | exact Hd.cellsAll (k := 3) rfl | exact Hd.cellsAll (k := 4) rfl | exact Hd.cellsAll (k := 5) rfl | exact Hd.cells0 (by assumption) (by first | exact fun h => h | assumption)) (by exact sz_27)) ?_
  exact fun w1 hh => by
    have h3 : St S w w1 [.row A11 c11 9 1 (kv ++ [(k, v)]).length ((kv ++ [(k, v)]).map fun q => .string q.1), .row A17 c17 3 1 (kv ++ [(k, v)]).length ((kv ++ [(k, v)]).map fun q => .int .i64 q.2)] := by simpa [Value.cells] using (((hh.pull (k := 5) rfl).pull (k := 5) rfl).take 2)
    exact ⟨((A11, c11), (A17, c17)), by simp, h3, trivial⟩
set_option maxRecDepth 100000 in
set_option maxHeartbeats 1000000 in
theorem rget_y (m h s : Int) (A B : Option Addr) (c1 c2 : Nat) (kv : Bc.KV) (k : ByteArray) (w : World) (hK : SlR w A (kv.map fun q => .string q.1)) (hV : SlR w B (kv.map fun q => .int .i64 q.2)) (hn : kv.length ≤ 100000) (hh0 : 0 ≤ h) (hh1 : h ≤ 1000000) (hs0 : 0 ≤ s) (hs1 : s ≤ 1000000) (hx : Bc.hs kv k = true) :
    Calls Try.prog 20 [.agg #[.int .i64 m, .slice A kv.length c1, .slice B kv.length c2, .int .i64 h, .int .i64 s], .string k].toArray w fun e w' => ∃ g : (Option Addr × Nat) × (Option Addr × Nat), e = .returned (.tuple #[.agg #[.int .i64 m, .slice g.1.1 (Bc.wo kv k ++ [(k, Bc.vl kv k)]).length g.1.2, .slice g.2.1 (Bc.wo kv k ++ [(k, Bc.vl kv k)]).length g.2.2, .int .i64 (h + 1), .int .i64 s], .int .i64 (Bc.vl kv k), .bool true]) ∧ St noB w w' [roP g.1.1 ((Bc.wo kv k ++ [(k, Bc.vl kv k)]).map fun q => .string q.1), roP g.2.1 ((Bc.wo kv k ++ [(k, Bc.vl kv k)]).map fun q => .int .i64 q.2)] ∧ True := by
  refine GC.calls Try.func20 rfl rfl (St.begin _) ?_
  refine GC.seq ?_
  refine GC.reg ?_
  refine GL.step (ot_box rfl rfl rfl fun b2 => ?_)
  refine GL.step (ot_alloc (zs := [.int .i64 0, .slice none 0 0, .slice none 0 0, .int .i64 0, .int .i64 0]) zb_27 rfl rfl fun b4 => ?_)
  refine GL.val (rv_assign rfl) rfl ?_
  refine GL.val (rv_assign rfl) rfl ?_
  refine GL.nil ?_
  refine GX.then ?_
  refine GC.seq ?_
  refine GC.reg ?_
  refine GL.val (rv_loadA ag_27 rfl (by first | exact Hd.cellsAll (k := 0) rfl | exact Hd.cellsAll (k := 1) rfl | exact Hd.cells0 (by assumption) (by first | exact fun h => h | assumption)) (by exact sz_27)) rfl ?_
  refine GL.val (rv_move rfl) rfl ?_
  refine GL.step (ot_call hb_27 rfl (callOk fun w hh => without_c m h s A B c1 c2 kv k w (hh.rd0n hK) (hh.rd0n hV) hn) rfl fun ⟨⟨A13, c13⟩, ⟨B13, d13⟩⟩ _ => ?_)
  refine GL.val (rv_move rfl) rfl ?_
  refine GL.val (rv_extract rfl rfl) rfl ?_
  refine GL.val (rv_extract rfl rfl) rfl ?_
  refine GL.val (rv_extract rfl rfl) rfl ?_
  refine GL.step (ot_alloc (zs := [.int .i64 0, .slice none 0 0, .slice none 0 0, .int .i64 0, .int .i64 0]) zb_27 rfl rfl fun b7 => ?_)
  first | refine GL.step (ot_store (k := 0) rfl rfl rfl rfl sz_27 rfl rfl (by first | ((simp only [repl, List.set_cons_zero, List.set_cons_succ]) <;> rfl) | rfl) ?_) | refine GL.step (ot_store (k := 1) rfl rfl rfl rfl sz_27 rfl rfl (by first | ((simp only [repl, List.set_cons_zero, List.set_cons_succ]) <;> rfl) | rfl) ?_) | refine GL.step (ot_store (k := 2) rfl rfl rfl rfl sz_27 rfl rfl (by first | ((simp only [repl, List.set_cons_zero, List.set_cons_succ]) <;> rfl) | rfl) ?_) | refine GL.step (ot_store (k := 3) rfl rfl rfl rfl sz_27 rfl rfl (by first | ((simp only [repl, List.set_cons_zero, List.set_cons_succ]) <;> rfl) | rfl) ?_) | refine GL.step (ot_store (k := 4) rfl rfl rfl rfl sz_27 rfl rfl (by first | ((simp only [repl, List.set_cons_zero, List.set_cons_succ]) <;> rfl) | rfl) ?_)
  refine GL.val (rv_assign rfl) rfl ?_
  refine GL.val (rv_assign rfl) rfl ?_
  refine GL.nil ?_
  refine GX.then ?_
  refine GC.seq ?_
  refine GC.seq ?_
  refine GC.reg ?_
  refine GL.val (rv_move rfl) rfl ?_
  refine GL.val (rv_not rfl) rfl ?_
  refine GL.nil ?_
  refine GX.then ?_
  first | refine GC.condP rfl (fun c1 => ?_) (fun c1 => ?_) | refine GC.cond rfl (fun c1 => ?_) (fun c1 => ?_)
  · rw [hx] at c1; simp at c1
  · have hwl := Bc.wo_len kv k
    refine GC.skip ?_
    refine GX.then ?_
    refine GC.seq ?_
    refine GC.reg ?_
    refine GL.val (rv_field fo_27_3 rfl rfl) rfl ?_
    refine GL.val (rv_load ag_3 rfl (by first | exact Hd.cell (k := 0) rfl rfl | exact Hd.cell (k := 1) rfl rfl | exact Hd.cell (k := 2) rfl rfl | exact Hd.cell (k := 3) rfl rfl | exact Hd.cell (k := 4) rfl rfl | exact Hd.rowCell (k := 0) rfl (by assumption) | exact Hd.rowCell (k := 1) rfl (by assumption) | exact Hd.rowCell (k := 2) rfl (by assumption) | exact Hd.rowCell (k := 3) rfl (by assumption) | exact Hd.rowCell (k := 4) rfl (by assumption) | exact Hd.cell0 (by assumption) (by first | exact fun h => h | assumption))) rfl ?_
    refine GL.val (rv_add rfl rfl (by omega) (by omega)) rfl ?_
    refine GL.val (rv_field fo_27_3 rfl rfl) rfl ?_
    first | refine GL.step (ot_store (k := 0) rfl rfl rfl rfl sz_3 rfl rfl (by first | ((simp only [repl, List.set_cons_zero, List.set_cons_succ]) <;> rfl) | rfl) ?_) | refine GL.step (ot_store (k := 1) rfl rfl rfl rfl sz_3 rfl rfl (by first | ((simp only [repl, List.set_cons_zero, List.set_cons_succ]) <;> rfl) | rfl) ?_) | refine GL.step (ot_store (k := 2) rfl rfl rfl rfl sz_3 rfl rfl (by first | ((simp only [repl, List.set_cons_zero, List.set_cons_succ]) <;> rfl) | rfl) ?_) | refine GL.step (ot_store (k := 3) rfl rfl rfl rfl sz_3 rfl rfl (by first | ((simp only [repl, List.set_cons_zero, List.set_cons_succ]) <;> rfl) | rfl) ?_) | refine GL.step (ot_store (k := 4) rfl rfl rfl rfl sz_3 rfl rfl (by first | ((simp only [repl, List.set_cons_zero, List.set_cons_succ]) <;> rfl) | rfl) ?_)
    refine GL.nil ?_
    refine GX.then ?_
    refine GC.seq ?_
    refine GC.st (fun w h => St.grp (Gs := [_, _]) ((h.pull (k := 2) rfl).pull (k := 2) rfl)) ?_
    refine GC.reg ?_
    refine GL.val (rv_loadA ag_27 rfl (by first | exact Hd.cellsAll (k := 0) rfl | exact Hd.cellsAll (k := 1) rfl | exact Hd.cellsAll (k := 2) rfl | exact Hd.cellsAll (k := 3) rfl | exact Hd.cells0 (by assumption) (by first | exact fun h => h | assumption)) (by exact sz_27)) rfl ?_
    refine GL.val (rv_move rfl) rfl ?_
    refine GL.val (rv_move rfl) rfl ?_
    refine GL.step (ot_call hb_28 rfl (callOkM (k := 0) rfl fun w S _ hA hb => behind_c m _ (h + 1) s k A13 B13 c13 d13 (Bc.wo kv k) w S hA hb (by omega)) rfl fun ⟨⟨A31, c31⟩, ⟨B31, d31⟩⟩ _ => ?_)
    refine GL.val (rv_move rfl) rfl ?_
    first | refine GL.step (ot_store (k := 0) rfl rfl rfl rfl sz_27 rfl rfl (by first | ((simp only [repl, List.set_cons_zero, List.set_cons_succ]) <;> rfl) | rfl) ?_) | refine GL.step (ot_store (k := 1) rfl rfl rfl rfl sz_27 rfl rfl (by first | ((simp only [repl, List.set_cons_zero, List.set_cons_succ]) <;> rfl) | rfl) ?_) | refine GL.step (ot_store (k := 2) rfl rfl rfl rfl sz_27 rfl rfl (by first | ((simp only [repl, List.set_cons_zero, List.set_cons_succ]) <;> rfl) | rfl) ?_) | refine GL.step (ot_store (k := 3) rfl rfl rfl rfl sz_27 rfl rfl (by first | ((simp only [repl, List.set_cons_zero, List.set_cons_succ]) <;> rfl) | rfl) ?_) | refine GL.step (ot_store (k := 4) rfl rfl rfl rfl sz_27 rfl rfl (by first | ((simp only [repl, List.set_cons_zero, List.set_cons_succ]) <;> rfl) | rfl) ?_)
    refine GL.val (rv_assign rfl) rfl ?_
    refine GL.val (rv_assign rfl) rfl ?_
    refine GL.nil ?_
    refine GX.then ?_
    refine GC.ret ?_
    refine GX.ret3 rfl (RR.cell ag_27 rfl (by first | exact Hd.cellsAll (k := 0) rfl | exact Hd.cellsAll (k := 1) rfl | exact Hd.cellsAll (k := 2) rfl | exact Hd.cellsAll (k := 3) rfl | exact Hd.cellsAll (k := 4) rfl | exact Hd.cells0 (by assumption) (by first | exact fun h => h | assumption)) (by exact sz_27)) (RR.tmp rfl) (RR.tmp rfl) ?_
    exact fun w1 h1 => ⟨((A31, c31), (B31, d31)), rfl, ((h1.take 2).rowRo (k := 0) rfl).rowRo (k := 1) rfl, trivial⟩
set_option maxRecDepth 100000 in
set_option maxHeartbeats 1000000 in
theorem rget_n (m h s : Int) (A B : Option Addr) (c1 c2 : Nat) (kv : Bc.KV) (k : ByteArray) (w : World) (hK : SlR w A (kv.map fun q => .string q.1)) (hV : SlR w B (kv.map fun q => .int .i64 q.2)) (hn : kv.length ≤ 100000) (hh0 : 0 ≤ h) (hh1 : h ≤ 1000000) (hs0 : 0 ≤ s) (hs1 : s ≤ 1000000) (hx : Bc.hs kv k = false) :
    Calls Try.prog 20 [.agg #[.int .i64 m, .slice A kv.length c1, .slice B kv.length c2, .int .i64 h, .int .i64 s], .string k].toArray w fun e w' => ∃ g : (Option Addr × Nat) × (Option Addr × Nat), e = .returned (.tuple #[.agg #[.int .i64 m, .slice g.1.1 (Bc.wo kv k).length g.1.2, .slice g.2.1 (Bc.wo kv k).length g.2.2, .int .i64 h, .int .i64 (s + 1)], .int .i64 0, .bool false]) ∧ St noB w w' [roP g.1.1 ((Bc.wo kv k).map fun q => .string q.1), roP g.2.1 ((Bc.wo kv k).map fun q => .int .i64 q.2)] ∧ True := by
  refine GC.calls Try.func20 rfl rfl (St.begin _) ?_
  refine GC.seq ?_
  refine GC.reg ?_
  refine GL.step (ot_box rfl rfl rfl fun b2 => ?_)
  refine GL.step (ot_alloc (zs := [.int .i64 0, .slice none 0 0, .slice none 0 0, .int .i64 0, .int .i64 0]) zb_27 rfl rfl fun b4 => ?_)
  refine GL.val (rv_assign rfl) rfl ?_
  refine GL.val (rv_assign rfl) rfl ?_
  refine GL.nil ?_
  refine GX.then ?_
  refine GC.seq ?_
  refine GC.reg ?_
  refine GL.val (rv_loadA ag_27 rfl (by first | exact Hd.cellsAll (k := 0) rfl | exact Hd.cellsAll (k := 1) rfl | exact Hd.cells0 (by assumption) (by first | exact fun h => h | assumption)) (by exact sz_27)) rfl ?_
  refine GL.val (rv_move rfl) rfl ?_
  refine GL.step (ot_call hb_27 rfl (callOk fun w hh => without_c m h s A B c1 c2 kv k w (hh.rd0n hK) (hh.rd0n hV) hn) rfl fun ⟨⟨A13, c13⟩, ⟨B13, d13⟩⟩ _ => ?_)
  refine GL.val (rv_move rfl) rfl ?_
  refine GL.val (rv_extract rfl rfl) rfl ?_
  refine GL.val (rv_extract rfl rfl) rfl ?_
  refine GL.val (rv_extract rfl rfl) rfl ?_
  refine GL.step (ot_alloc (zs := [.int .i64 0, .slice none 0 0, .slice none 0 0, .int .i64 0, .int .i64 0]) zb_27 rfl rfl fun b7 => ?_)
  first | refine GL.step (ot_store (k := 0) rfl rfl rfl rfl sz_27 rfl rfl (by first | ((simp only [repl, List.set_cons_zero, List.set_cons_succ]) <;> rfl) | rfl) ?_) | refine GL.step (ot_store (k := 1) rfl rfl rfl rfl sz_27 rfl rfl (by first | ((simp only [repl, List.set_cons_zero, List.set_cons_succ]) <;> rfl) | rfl) ?_) | refine GL.step (ot_store (k := 2) rfl rfl rfl rfl sz_27 rfl rfl (by first | ((simp only [repl, List.set_cons_zero, List.set_cons_succ]) <;> rfl) | rfl) ?_) | refine GL.step (ot_store (k := 3) rfl rfl rfl rfl sz_27 rfl rfl (by first | ((simp only [repl, List.set_cons_zero, List.set_cons_succ]) <;> rfl) | rfl) ?_) | refine GL.step (ot_store (k := 4) rfl rfl rfl rfl sz_27 rfl rfl (by first | ((simp only [repl, List.set_cons_zero, List.set_cons_succ]) <;> rfl) | rfl) ?_)
  refine GL.val (rv_assign rfl) rfl ?_
  refine GL.val (rv_assign rfl) rfl ?_
  refine GL.nil ?_
  refine GX.then ?_
  refine GC.seq ?_
  refine GC.seq ?_
  refine GC.reg ?_
  refine GL.val (rv_move rfl) rfl ?_
  refine GL.val (rv_not rfl) rfl ?_
  refine GL.nil ?_
  refine GX.then ?_
  first | refine GC.condP rfl (fun c1 => ?_) (fun c1 => ?_) | refine GC.cond rfl (fun c1 => ?_) (fun c1 => ?_)
  · refine GC.seq ?_
    refine GC.reg ?_
    refine GL.val (rv_field fo_27_4 rfl rfl) rfl ?_
    refine GL.val (rv_load ag_3 rfl (by first | exact Hd.cell (k := 0) rfl rfl | exact Hd.cell (k := 1) rfl rfl | exact Hd.cell (k := 2) rfl rfl | exact Hd.cell (k := 3) rfl rfl | exact Hd.cell (k := 4) rfl rfl | exact Hd.rowCell (k := 0) rfl (by assumption) | exact Hd.rowCell (k := 1) rfl (by assumption) | exact Hd.rowCell (k := 2) rfl (by assumption) | exact Hd.rowCell (k := 3) rfl (by assumption) | exact Hd.rowCell (k := 4) rfl (by assumption) | exact Hd.cell0 (by assumption) (by first | exact fun h => h | assumption))) rfl ?_
    refine GL.val (rv_add rfl rfl (by omega) (by omega)) rfl ?_
    refine GL.val (rv_field fo_27_4 rfl rfl) rfl ?_
    first | refine GL.step (ot_store (k := 0) rfl rfl rfl rfl sz_3 rfl rfl (by first | ((simp only [repl, List.set_cons_zero, List.set_cons_succ]) <;> rfl) | rfl) ?_) | refine GL.step (ot_store (k := 1) rfl rfl rfl rfl sz_3 rfl rfl (by first | ((simp only [repl, List.set_cons_zero, List.set_cons_succ]) <;> rfl) | rfl) ?_) | refine GL.step (ot_store (k := 2) rfl rfl rfl rfl sz_3 rfl rfl (by first | ((simp only [repl, List.set_cons_zero, List.set_cons_succ]) <;> rfl) | rfl) ?_) | refine GL.step (ot_store (k := 3) rfl rfl rfl rfl sz_3 rfl rfl (by first | ((simp only [repl, List.set_cons_zero, List.set_cons_succ]) <;> rfl) | rfl) ?_) | refine GL.step (ot_store (k := 4) rfl rfl rfl rfl sz_3 rfl rfl (by first | ((simp only [repl, List.set_cons_zero, List.set_cons_succ]) <;> rfl) | rfl) ?_)
    refine GL.nil ?_
    refine GX.then ?_
    refine GC.seq ?_
    refine GC.reg ?_
    refine GL.val (rv_loadA ag_27 rfl (by first | exact Hd.cellsAll (k := 0) rfl | exact Hd.cellsAll (k := 1) rfl | exact Hd.cellsAll (k := 2) rfl | exact Hd.cellsAll (k := 3) rfl | exact Hd.cellsAll (k := 4) rfl | exact Hd.cells0 (by assumption) (by first | exact fun h => h | assumption)) (by exact sz_27)) rfl ?_
    first | refine GL.step (ot_store (k := 0) rfl rfl rfl rfl sz_27 rfl rfl (by first | ((simp only [repl, List.set_cons_zero, List.set_cons_succ]) <;> rfl) | rfl) ?_) | refine GL.step (ot_store (k := 1) rfl rfl rfl rfl sz_27 rfl rfl (by first | ((simp only [repl, List.set_cons_zero, List.set_cons_succ]) <;> rfl) | rfl) ?_) | refine GL.step (ot_store (k := 2) rfl rfl rfl rfl sz_27 rfl rfl (by first | ((simp only [repl, List.set_cons_zero, List.set_cons_succ]) <;> rfl) | rfl) ?_) | refine GL.step (ot_store (k := 3) rfl rfl rfl rfl sz_27 rfl rfl (by first | ((simp only [repl, List.set_cons_zero, List.set_cons_succ]) <;> rfl) | rfl) ?_) | refine GL.step (ot_store (k := 4) rfl rfl rfl rfl sz_27 rfl rfl (by first | ((simp only [repl, List.set_cons_zero, List.set_cons_succ]) <;> rfl) | rfl) ?_)
    refine GL.val (rv_assign rfl) rfl ?_
    refine GL.val (rv_assign rfl) rfl ?_
    refine GL.nil ?_
    refine GX.then ?_
    refine GC.ret ?_
    refine GX.then_ret ?_
    refine GX.ret3 rfl (RR.cell ag_27 rfl (by first | exact Hd.cellsAll (k := 0) rfl | exact Hd.cellsAll (k := 1) rfl | exact Hd.cellsAll (k := 2) rfl | exact Hd.cellsAll (k := 3) rfl | exact Hd.cellsAll (k := 4) rfl | exact Hd.cells0 (by assumption) (by first | exact fun h => h | assumption)) (by exact sz_27)) (RR.tmp rfl) (RR.tmp rfl) ?_
    exact fun w1 h1 => ⟨((A13, c13), (B13, d13)), rfl, ((((h1.pull (k := 2) rfl).pull (k := 2) rfl).take 2).rowRo (k := 0) rfl).rowRo (k := 1) rfl, trivial⟩
  · rw [hx] at c1; simp at c1
set_option maxRecDepth 100000 in
set_option maxHeartbeats 1000000 in
theorem rdrop_c (m h s : Int) (A B : Option Addr) (c1 c2 : Nat) (kv : Bc.KV) (k : ByteArray) (w : World) (hK : SlR w A (kv.map fun q => .string q.1)) (hV : SlR w B (kv.map fun q => .int .i64 q.2)) (hn : kv.length ≤ 100000) :
    Calls Try.prog 22 [.agg #[.int .i64 m, .slice A kv.length c1, .slice B kv.length c2, .int .i64 h, .int .i64 s], .string k].toArray w fun e w' => ∃ g : (Option Addr × Nat) × (Option Addr × Nat), e = .returned (.tuple #[.agg #[.int .i64 m, .slice g.1.1 (Bc.wo kv k).length g.1.2, .slice g.2.1 (Bc.wo kv k).length g.2.2, .int .i64 h, .int .i64 s], .bool (Bc.hs kv k)]) ∧ St noB w w' [roP g.1.1 ((Bc.wo kv k).map fun q => .string q.1), roP g.2.1 ((Bc.wo kv k).map fun q => .int .i64 q.2)] ∧ True := by
  refine GC.calls Try.func22 rfl rfl (St.begin _) ?_
  refine GC.seq ?_
  refine GC.reg ?_
  refine GL.step (ot_box rfl rfl rfl fun b2 => ?_)
  refine GL.step (ot_alloc (zs := [.int .i64 0, .slice none 0 0, .slice none 0 0, .int .i64 0, .int .i64 0]) zb_27 rfl rfl fun b4 => ?_)
  refine GL.val (rv_assign rfl) rfl ?_
  refine GL.nil ?_
  refine GX.then ?_
  refine GC.seq ?_
  refine GC.reg ?_
  refine GL.val (rv_loadA ag_27 rfl (by first | exact Hd.cellsAll (k := 0) rfl | exact Hd.cellsAll (k := 1) rfl | exact Hd.cells0 (by assumption) (by first | exact fun h => h | assumption)) (by exact sz_27)) rfl ?_
  refine GL.val (rv_move rfl) rfl ?_
  refine GL.step (ot_call hb_27 rfl (callOk fun w hh => without_c m h s A B c1 c2 kv k w (hh.rd0n hK) (hh.rd0n hV) hn) rfl fun ⟨⟨A13, c13⟩, ⟨B13, d13⟩⟩ _ => ?_)
  refine GL.val (rv_move rfl) rfl ?_
  refine GL.val (rv_extract rfl rfl) rfl ?_
  refine GL.val (rv_extract rfl rfl) rfl ?_
  refine GL.val (rv_extract rfl rfl) rfl ?_
  refine GL.step (ot_alloc (zs := [.int .i64 0, .slice none 0 0, .slice none 0 0, .int .i64 0, .int .i64 0]) zb_27 rfl rfl fun b6 => ?_)
  first | refine GL.step (ot_store (k := 0) rfl rfl rfl rfl sz_27 rfl rfl (by first | ((simp only [repl, List.set_cons_zero, List.set_cons_succ]) <;> rfl) | rfl) ?_) | refine GL.step (ot_store (k := 1) rfl rfl rfl rfl sz_27 rfl rfl (by first | ((simp only [repl, List.set_cons_zero, List.set_cons_succ]) <;> rfl) | rfl) ?_) | refine GL.step (ot_store (k := 2) rfl rfl rfl rfl sz_27 rfl rfl (by first | ((simp only [repl, List.set_cons_zero, List.set_cons_succ]) <;> rfl) | rfl) ?_) | refine GL.step (ot_store (k := 3) rfl rfl rfl rfl sz_27 rfl rfl (by first | ((simp only [repl, List.set_cons_zero, List.set_cons_succ]) <;> rfl) | rfl) ?_) | refine GL.step (ot_store (k := 4) rfl rfl rfl rfl sz_27 rfl rfl (by first | ((simp only [repl, List.set_cons_zero, List.set_cons_succ]) <;> rfl) | rfl) ?_)
  refine GL.val (rv_assign rfl) rfl ?_
  refine GL.val (rv_assign rfl) rfl ?_
  refine GL.nil ?_
  refine GX.then ?_
  refine GC.seq ?_
  refine GC.reg ?_
  refine GL.val (rv_loadA ag_27 rfl (by first | exact Hd.cellsAll (k := 0) rfl | exact Hd.cellsAll (k := 1) rfl | exact Hd.cellsAll (k := 2) rfl | exact Hd.cellsAll (k := 3) rfl | exact Hd.cellsAll (k := 4) rfl | exact Hd.cells0 (by assumption) (by first | exact fun h => h | assumption)) (by exact sz_27)) rfl ?_
  refine GL.val (rv_move rfl) rfl ?_
  first | refine GL.step (ot_store (k := 0) rfl rfl rfl rfl sz_27 rfl rfl (by first | ((simp only [repl, List.set_cons_zero, List.set_cons_succ]) <;> rfl) | rfl) ?_) | refine GL.step (ot_store (k := 1) rfl rfl rfl rfl sz_27 rfl rfl (by first | ((simp only [repl, List.set_cons_zero, List.set_cons_succ]) <;> rfl) | rfl) ?_) | refine GL.step (ot_store (k := 2) rfl rfl rfl rfl sz_27 rfl rfl (by first | ((simp only [repl, List.set_cons_zero, List.set_cons_succ]) <;> rfl) | rfl) ?_) | refine GL.step (ot_store (k := 3) rfl rfl rfl rfl sz_27 rfl rfl (by first | ((simp only [repl, List.set_cons_zero, List.set_cons_succ]) <;> rfl) | rfl) ?_) | refine GL.step (ot_store (k := 4) rfl rfl rfl rfl sz_27 rfl rfl (by first | ((simp only [repl, List.set_cons_zero, List.set_cons_succ]) <;> rfl) | rfl) ?_)
  refine GL.val (rv_assign rfl) rfl ?_
  refine GL.nil ?_
  refine GX.then ?_
  refine GC.ret ?_
  refine GX.ret2 rfl (RR.cell ag_27 rfl (by first | exact Hd.cellsAll (k := 0) rfl | exact Hd.cellsAll (k := 1) rfl | exact Hd.cellsAll (k := 2) rfl | exact Hd.cellsAll (k := 3) rfl | exact Hd.cellsAll (k := 4) rfl | exact Hd.cells0 (by assumption) (by first | exact fun h => h | assumption)) (by exact sz_27)) (RR.tmp rfl) ?_
  exact fun w1 h1 => ⟨((A13, c13), (B13, d13)), rfl, ((((h1.pull (k := 2) rfl).pull (k := 2) rfl).take 2).rowRo (k := 0) rfl).rowRo (k := 1) rfl, trivial⟩
set_option maxRecDepth 100000 in
set_option maxHeartbeats 1000000 in
theorem rput_c (m h s : Int) (A B : Option Addr) (c1 c2 : Nat) (kv : Bc.KV) (v : Int) (k : ByteArray) (w : World) (hK : SlR w A (kv.map fun q => .string q.1)) (hV : SlR w B (kv.map fun q => .int .i64 q.2)) (hn : kv.length ≤ 100000) :
    Calls Try.prog 21 [.agg #[.int .i64 m, .slice A kv.length c1, .slice B kv.length c2, .int .i64 h, .int .i64 s], .string k, .int .i64 v].toArray w fun e w' => ∃ g : (Option Addr × Nat) × (Option Addr × Nat), e = .returned (.agg #[.int .i64 m, .slice g.1.1 ((if m < (Bc.wo kv k ++ [(k, v)]).length then (Bc.wo kv k ++ [(k, v)]).drop 1 else (Bc.wo kv k ++ [(k, v)]))).length g.1.2, .slice g.2.1 ((if m < (Bc.wo kv k ++ [(k, v)]).length then (Bc.wo kv k ++ [(k, v)]).drop 1 else (Bc.wo kv k ++ [(k, v)]))).length g.2.2, .int .i64 h, .int .i64 s]) ∧ St noB w w' [roP g.1.1 (((if m < (Bc.wo kv k ++ [(k, v)]).length then (Bc.wo kv k ++ [(k, v)]).drop 1 else (Bc.wo kv k ++ [(k, v)]))).map fun q => .string q.1), roP g.2.1 (((if m < (Bc.wo kv k ++ [(k, v)]).length then (Bc.wo kv k ++ [(k, v)]).drop 1 else (Bc.wo kv k ++ [(k, v)]))).map fun q => .int .i64 q.2)] ∧ True := by
  refine GC.calls Try.func21 rfl rfl (St.begin _) ?_
  refine GC.seq ?_
  refine GC.reg ?_
  refine GL.step (ot_box rfl rfl rfl fun b3 => ?_)
  refine GL.step (ot_alloc (zs := [.int .i64 0, .slice none 0 0, .slice none 0 0, .int .i64 0, .int .i64 0]) zb_27 rfl rfl fun b6 => ?_)
  refine GL.nil ?_
  refine GX.then ?_
  refine GC.seq ?_
  refine GC.reg ?_
  refine GL.val (rv_loadA ag_27 rfl (by first | exact Hd.cellsAll (k := 0) rfl | exact Hd.cellsAll (k := 1) rfl | exact Hd.cells0 (by assumption) (by first | exact fun h => h | assumption)) (by exact sz_27)) rfl ?_
  refine GL.val (rv_move rfl) rfl ?_
  refine GL.step (ot_call hb_27 rfl (callOk fun w hh => without_c m h s A B c1 c2 kv k w (hh.rd0n hK) (hh.rd0n hV) hn) rfl fun ⟨⟨A13, c13⟩, ⟨B13, d13⟩⟩ _ => ?_)
  refine GL.val (rv_move rfl) rfl ?_
  refine GL.val (rv_extract rfl rfl) rfl ?_
  refine GL.val (rv_extract rfl rfl) rfl ?_
  refine GL.val (rv_extract rfl rfl) rfl ?_
  refine GL.step (ot_alloc (zs := [.int .i64 0, .slice none 0 0, .slice none 0 0, .int .i64 0, .int .i64 0]) zb_27 rfl rfl fun b7 => ?_)
  first | refine GL.step (ot_store (k := 0) rfl rfl rfl rfl sz_27 rfl rfl (by first | ((simp only [repl, List.set_cons_zero, List.set_cons_succ]) <;> rfl) | rfl) ?_) | refine GL.step (ot_store (k := 1) rfl rfl rfl rfl sz_27 rfl rfl (by first | ((simp only [repl, List.set_cons_zero, List.set_cons_succ]) <;> rfl) | rfl) ?_) | refine GL.step (ot_store (k := 2) rfl rfl rfl rfl sz_27 rfl rfl (by first | ((simp only [repl, List.set_cons_zero, List.set_cons_succ]) <;> rfl) | rfl) ?_) | refine GL.step (ot_store (k := 3) rfl rfl rfl rfl sz_27 rfl rfl (by first | ((simp only [repl, List.set_cons_zero, List.set_cons_succ]) <;> rfl) | rfl) ?_) | refine GL.step (ot_store (k := 4) rfl rfl rfl rfl sz_27 rfl rfl (by first | ((simp only [repl, List.set_cons_zero, List.set_cons_succ]) <;> rfl) | rfl) ?_)
  refine GL.val (rv_assign rfl) rfl ?_
  refine GL.val (rv_assign rfl) rfl ?_
  refine GL.nil ?_
  refine GX.then ?_
  refine GC.seq ?_
  refine GC.st (fun w h => St.grp (Gs := [_, _]) ((h.pull (k := 2) rfl).pull (k := 2) rfl)) ?_
  refine GC.reg ?_
  refine GL.val (rv_loadA ag_27 rfl (by first | exact Hd.cellsAll (k := 0) rfl | exact Hd.cellsAll (k := 1) rfl | exact Hd.cellsAll (k := 2) rfl | exact Hd.cellsAll (k := 3) rfl | exact Hd.cells0 (by assumption) (by first | exact fun h => h | assumption)) (by exact sz_27)) rfl ?_
  refine GL.val (rv_move rfl) rfl ?_
  refine GL.val (rv_move rfl) rfl ?_
  refine GL.step (ot_call hb_28 rfl (callOkM (k := 0) rfl fun w S _ hA hb => behind_c m _ h s k A13 B13 c13 d13 (Bc.wo kv k) w S hA hb (by have := Bc.wo_len kv k; omega)) rfl fun ⟨⟨A31, c31⟩, ⟨B31, d31⟩⟩ _ => ?_)
  first | refine GL.step (ot_store (k := 0) rfl rfl rfl rfl sz_27 rfl rfl (by first | ((simp only [repl, List.set_cons_zero, List.set_cons_succ]) <;> rfl) | rfl) ?_) | refine GL.step (ot_store (k := 1) rfl rfl rfl rfl sz_27 rfl rfl (by first | ((simp only [repl, List.set_cons_zero, List.set_cons_succ]) <;> rfl) | rfl) ?_) | refine GL.step (ot_store (k := 2) rfl rfl rfl rfl sz_27 rfl rfl (by first | ((simp only [repl, List.set_cons_zero, List.set_cons_succ]) <;> rfl) | rfl) ?_) | refine GL.step (ot_store (k := 3) rfl rfl rfl rfl sz_27 rfl rfl (by first | ((simp only [repl, List.set_cons_zero, List.set_cons_succ]) <;> rfl) | rfl) ?_) | refine GL.step (ot_store (k := 4) rfl rfl rfl rfl sz_27 rfl rfl (by first | ((simp only [repl, List.set_cons_zero, List.set_cons_succ]) <;> rfl) | rfl) ?_)
  refine GL.nil ?_
  refine GX.then ?_
  refine GC.seq ?_
  refine GC.seq ?_
  refine GC.reg ?_
  refine GL.val (rv_field fo_27_1 rfl rfl) rfl ?_
  refine GL.val (rv_load ag_24 rfl (by first | exact Hd.cell (k := 0) rfl rfl | exact Hd.cell (k := 1) rfl rfl | exact Hd.cell (k := 2) rfl rfl | exact Hd.cell (k := 3) rfl rfl | exact Hd.cell (k := 4) rfl rfl | exact Hd.rowCell (k := 0) rfl (by assumption) | exact Hd.rowCell (k := 1) rfl (by assumption) | exact Hd.rowCell (k := 2) rfl (by assumption) | exact Hd.rowCell (k := 3) rfl (by assumption) | exact Hd.rowCell (k := 4) rfl (by assumption) | exact Hd.cell0 (by assumption) (by first | exact fun h => h | assumption))) rfl ?_
  refine GL.val (rv_lenSl Try.underlying24 rfl) rfl ?_
  refine GL.val (rv_field fo_27_0 rfl rfl) rfl ?_
  refine GL.val (rv_load ag_3 rfl (by first | exact Hd.cell (k := 0) rfl rfl | exact Hd.cell (k := 1) rfl rfl | exact Hd.cell (k := 2) rfl rfl | exact Hd.cell (k := 3) rfl rfl | exact Hd.cell (k := 4) rfl rfl | exact Hd.rowCell (k := 0) rfl (by assumption) | exact Hd.rowCell (k := 1) rfl (by assumption) | exact Hd.rowCell (k := 2) rfl (by assumption) | exact Hd.rowCell (k := 3) rfl (by assumption) | exact Hd.rowCell (k := 4) rfl (by assumption) | exact Hd.cell0 (by assumption) (by first | exact fun h => h | assumption))) rfl ?_
  refine GL.val (rv_gtr rfl rfl) rfl ?_
  refine GL.nil ?_
  refine GX.then ?_
  first | refine GC.condP rfl (fun c1 => ?_) (fun c1 => ?_) | refine GC.cond rfl (fun c1 => ?_) (fun c1 => ?_)
  · refine GC.seq ?_
    refine GC.rowForm (k := 0) rfl fun _ hc1 _ => ?_
    refine GC.rowForm (k := 1) rfl fun _ hc2 _ => ?_
    have hl1 : (Bc.wo kv k ++ [(k, v)]).length = (Bc.wo kv k).length + 1 := by simp
    refine GC.reg ?_
    refine GL.val (rv_field fo_27_1 rfl rfl) rfl ?_
    refine GL.val (rv_load ag_24 rfl (by first | exact Hd.cell (k := 0) rfl rfl | exact Hd.cell (k := 1) rfl rfl | exact Hd.cell (k := 2) rfl rfl | exact Hd.cell (k := 3) rfl rfl | exact Hd.cell (k := 4) rfl rfl | exact Hd.rowCell (k := 0) rfl (by assumption) | exact Hd.rowCell (k := 1) rfl (by assumption) | exact Hd.rowCell (k := 2) rfl (by assumption) | exact Hd.rowCell (k := 3) rfl (by assumption) | exact Hd.rowCell (k := 4) rfl (by assumption) | exact Hd.cell0 (by assumption) (by first | exact fun h => h | assumption))) rfl ?_
    refine GL.val (rv_slFrom es_24 rfl rfl 1 rfl (by omega) (by omega)) rfl ?_
    refine GL.val (rv_field fo_27_1 rfl rfl) rfl ?_
    first | refine GL.step (ot_store (k := 0) rfl rfl rfl rfl sz_24 rfl rfl (by first | ((simp only [repl, List.set_cons_zero, List.set_cons_succ]) <;> rfl) | rfl) ?_) | refine GL.step (ot_store (k := 1) rfl rfl rfl rfl sz_24 rfl rfl (by first | ((simp only [repl, List.set_cons_zero, List.set_cons_succ]) <;> rfl) | rfl) ?_) | refine GL.step (ot_store (k := 2) rfl rfl rfl rfl sz_24 rfl rfl (by first | ((simp only [repl, List.set_cons_zero, List.set_cons_succ]) <;> rfl) | rfl) ?_) | refine GL.step (ot_store (k := 3) rfl rfl rfl rfl sz_24 rfl rfl (by first | ((simp only [repl, List.set_cons_zero, List.set_cons_succ]) <;> rfl) | rfl) ?_) | refine GL.step (ot_store (k := 4) rfl rfl rfl rfl sz_24 rfl rfl (by first | ((simp only [repl, List.set_cons_zero, List.set_cons_succ]) <;> rfl) | rfl) ?_)
    refine GL.nil ?_
    refine GX.then ?_
    refine GC.reg ?_
    refine GL.val (rv_field fo_27_2 rfl rfl) rfl ?_
    refine GL.val (rv_load ag_25 rfl (by first | exact Hd.cell (k := 0) rfl rfl | exact Hd.cell (k := 1) rfl rfl | exact Hd.cell (k := 2) rfl rfl | exact Hd.cell (k := 3) rfl rfl | exact Hd.cell (k := 4) rfl rfl | exact Hd.rowCell (k := 0) rfl (by assumption) | exact Hd.rowCell (k := 1) rfl (by assumption) | exact Hd.rowCell (k := 2) rfl (by assumption) | exact Hd.rowCell (k := 3) rfl (by assumption) | exact Hd.rowCell (k := 4) rfl (by assumption) | exact Hd.cell0 (by assumption) (by first | exact fun h => h | assumption))) rfl ?_
    refine GL.val (rv_slFrom es_25 rfl rfl 1 rfl (by omega) (by omega)) rfl ?_
    refine GL.val (rv_field fo_27_2 rfl rfl) rfl ?_
    first | refine GL.step (ot_store (k := 0) rfl rfl rfl rfl sz_25 rfl rfl (by first | ((simp only [repl, List.set_cons_zero, List.set_cons_succ]) <;> rfl) | rfl) ?_) | refine GL.step (ot_store (k := 1) rfl rfl rfl rfl sz_25 rfl rfl (by first | ((simp only [repl, List.set_cons_zero, List.set_cons_succ]) <;> rfl) | rfl) ?_) | refine GL.step (ot_store (k := 2) rfl rfl rfl rfl sz_25 rfl rfl (by first | ((simp only [repl, List.set_cons_zero, List.set_cons_succ]) <;> rfl) | rfl) ?_) | refine GL.step (ot_store (k := 3) rfl rfl rfl rfl sz_25 rfl rfl (by first | ((simp only [repl, List.set_cons_zero, List.set_cons_succ]) <;> rfl) | rfl) ?_) | refine GL.step (ot_store (k := 4) rfl rfl rfl rfl sz_25 rfl rfl (by first | ((simp only [repl, List.set_cons_zero, List.set_cons_succ]) <;> rfl) | rfl) ?_)
    refine GL.nil ?_
    refine GX.then ?_
    refine GC.seq ?_
    refine GC.reg ?_
    refine GL.val (rv_loadA ag_27 rfl (by first | exact Hd.cellsAll (k := 0) rfl | exact Hd.cellsAll (k := 1) rfl | exact Hd.cellsAll (k := 2) rfl | exact Hd.cellsAll (k := 3) rfl | exact Hd.cellsAll (k := 4) rfl | exact Hd.cells0 (by assumption) (by first | exact fun h => h | assumption)) (by exact sz_27)) rfl ?_
    first | refine GL.step (ot_store (k := 0) rfl rfl rfl rfl sz_27 rfl rfl (by first | ((simp only [repl, List.set_cons_zero, List.set_cons_succ]) <;> rfl) | rfl) ?_) | refine GL.step (ot_store (k := 1) rfl rfl rfl rfl sz_27 rfl rfl (by first | ((simp only [repl, List.set_cons_zero, List.set_cons_succ]) <;> rfl) | rfl) ?_) | refine GL.step (ot_store (k := 2) rfl rfl rfl rfl sz_27 rfl rfl (by first | ((simp only [repl, List.set_cons_zero, List.set_cons_succ]) <;> rfl) | rfl) ?_) | refine GL.step (ot_store (k := 3) rfl rfl rfl rfl sz_27 rfl rfl (by first | ((simp only [repl, List.set_cons_zero, List.set_cons_succ]) <;> rfl) | rfl) ?_) | refine GL.step (ot_store (k := 4) rfl rfl rfl rfl sz_27 rfl rfl (by first | ((simp only [repl, List.set_cons_zero, List.set_cons_succ]) <;> rfl) | rfl) ?_)
    refine GL.nil ?_
    refine GX.then ?_
    refine GC.ret ?_
    refine GX.ret1 rfl (RR.cell ag_27 rfl (by first | exact Hd.cellsAll (k := 0) rfl | exact Hd.cellsAll (k := 1) rfl | exact Hd.cellsAll (k := 2) rfl | exact Hd.cellsAll (k := 3) rfl | exact Hd.cellsAll (k := 4) rfl | exact Hd.cells0 (by assumption) (by first | exact fun h => h | assumption)) (by exact sz_27)) ?_
    exact fun w1 h1 => by
      rw [if_pos (by omega)]
      have h2 := ((((((h1.pull (k := 1) rfl).pull (k := 1) rfl).take 2).rowRo (k := 0) rfl).rowRo (k := 1) rfl).roDrop (k := 0) (l := 1) (m := c31) (sz := 1) rfl (fun hne => by have h0 := List.length_pos_iff.2 hne; simp at h0; dsimp only at hc1 hc2; omega)).roDrop (k := 1) (l := 1) (m := d31) (sz := 1) rfl (fun hne => by have h0 := List.length_pos_iff.2 hne; simp at h0; dsimp only at hc1 hc2; omega)
      refine ⟨((sAddr A31 c31 1 1, c31 - 1), (sAddr B31 d31 1 1, d31 - 1)), ?_, by simpa using h2, trivial⟩
      simp
  · refine GC.skip ?_
    refine GX.then ?_
    refine GC.seq ?_
    refine GC.reg ?_
    refine GL.val (rv_loadA ag_27 rfl (by first | exact Hd.cellsAll (k := 0) rfl | exact Hd.cellsAll (k := 1) rfl | exact Hd.cellsAll (k := 2) rfl | exact Hd.cellsAll (k := 3) rfl | exact Hd.cellsAll (k := 4) rfl | exact Hd.cells0 (by assumption) (by first | exact fun h => h | assumption)) (by exact sz_27)) rfl ?_
    first | refine GL.step (ot_store (k := 0) rfl rfl rfl rfl sz_27 rfl rfl (by first | ((simp only [repl, List.set_cons_zero, List.set_cons_succ]) <;> rfl) | rfl) ?_) | refine GL.step (ot_store (k := 1) rfl rfl rfl rfl sz_27 rfl rfl (by first | ((simp only [repl, List.set_cons_zero, List.set_cons_succ]) <;> rfl) | rfl) ?_) | refine GL.step (ot_store (k := 2) rfl rfl rfl rfl sz_27 rfl rfl (by first | ((simp only [repl, List.set_cons_zero, List.set_cons_succ]) <;> rfl) | rfl) ?_) | refine GL.step (ot_store (k := 3) rfl rfl rfl rfl sz_27 rfl rfl (by first | ((simp only [repl, List.set_cons_zero, List.set_cons_succ]) <;> rfl) | rfl) ?_) | refine GL.step (ot_store (k := 4) rfl rfl rfl rfl sz_27 rfl rfl (by first | ((simp only [repl, List.set_cons_zero, List.set_cons_succ]) <;> rfl) | rfl) ?_)
    refine GL.nil ?_
    refine GX.then ?_
    refine GC.ret ?_
    refine GX.ret1 rfl (RR.cell ag_27 rfl (by first | exact Hd.cellsAll (k := 0) rfl | exact Hd.cellsAll (k := 1) rfl | exact Hd.cellsAll (k := 2) rfl | exact Hd.cellsAll (k := 3) rfl | exact Hd.cellsAll (k := 4) rfl | exact Hd.cells0 (by assumption) (by first | exact fun h => h | assumption)) (by exact sz_27)) ?_
    exact fun w1 h1 => by
      rw [if_neg (by omega)]
      exact ⟨((A31, c31), (B31, d31)), rfl, ((((h1.pull (k := 1) rfl).pull (k := 1) rfl).take 2).rowRo (k := 0) rfl).rowRo (k := 1) rfl, trivial⟩
set_option maxRecDepth 100000 in
set_option maxHeartbeats 1000000 in
theorem rnew_c (m : Int) (w : World) : Calls Try.prog 19 [.int .i64 m].toArray w fun e w' => ∃ _g : Unit, e = .returned (.agg #[.int .i64 (max m 0), .slice none 0 0, .slice none 0 0, .int .i64 0, .int .i64 0]) ∧ St noB w w' [] ∧ True := by
  refine GC.calls Try.func19 rfl rfl (St.begin _) ?_
  refine GC.seq ?_
  refine GC.reg ?_
  refine GL.step (ot_alloc (zs := [.int .i64 0, .slice none 0 0, .slice none 0 0, .int .i64 0, .int .i64 0]) zb_27 rfl rfl fun b2 => ?_)
  refine GL.nil ?_
  refine GX.then ?_
  refine GC.seq ?_
  refine GC.seq ?_
  refine GC.reg ?_
  refine GL.val (rv_move rfl) rfl ?_
  refine GL.val (rv_lss rfl rfl) rfl ?_
  refine GL.nil ?_
  refine GX.then ?_
  first | refine GC.condP rfl (fun c1 => ?_) (fun c1 => ?_) | refine GC.cond rfl (fun c1 => ?_) (fun c1 => ?_)
  · refine GC.reg ?_
    refine GL.val (rv_assign rfl) rfl ?_
    refine GL.nil ?_
    refine GX.then ?_
    refine GC.seq ?_
    refine GC.reg ?_
    refine GL.val (rv_move rfl) rfl ?_
    refine GL.val (rv_buildS pl_27 zb_27 rfl rfl (by first | ((simp only [bldL, repl, List.set_cons_zero, List.set_cons_succ, List.getElem?_cons_zero, List.getElem?_cons_succ, Option.getD_some, Value.cells]) <;> rfl) | rfl)) rfl ?_
    first | refine GL.step (ot_store (k := 0) rfl rfl rfl rfl sz_27 rfl rfl (by first | ((simp only [repl, List.set_cons_zero, List.set_cons_succ]) <;> rfl) | rfl) ?_)
    refine GL.nil ?_
    refine GX.then ?_
    refine GC.ret ?_
    refine GX.ret1 rfl (RR.cell ag_27 rfl (by first | exact Hd.cellsAll (k := 0) rfl | exact Hd.cells0 (by assumption) (by first | exact fun h => h | assumption)) (by exact sz_27)) ?_
    exact fun w1 h1 => ⟨(), by rw [show max m 0 = 0 by omega], h1.take 0, trivial⟩
  · refine GC.skip ?_
    refine GX.then ?_
    refine GC.seq ?_
    refine GC.reg ?_
    refine GL.val (rv_move rfl) rfl ?_
    refine GL.val (rv_buildS pl_27 zb_27 rfl rfl (by first | ((simp only [bldL, repl, List.set_cons_zero, List.set_cons_succ, List.getElem?_cons_zero, List.getElem?_cons_succ, Option.getD_some, Value.cells]) <;> rfl) | rfl)) rfl ?_
    first | refine GL.step (ot_store (k := 0) rfl rfl rfl rfl sz_27 rfl rfl (by first | ((simp only [repl, List.set_cons_zero, List.set_cons_succ]) <;> rfl) | rfl) ?_)
    refine GL.nil ?_
    refine GX.then ?_
    refine GC.ret ?_
    refine GX.ret1 rfl (RR.cell ag_27 rfl (by first | exact Hd.cellsAll (k := 0) rfl | exact Hd.cells0 (by assumption) (by first | exact fun h => h | assumption)) (by exact sz_27)) ?_
    exact fun w1 h1 => ⟨(), by rw [show max m 0 = m by omega], h1.take 0, trivial⟩
set_option maxRecDepth 100000 in
set_option maxHeartbeats 1000000 in
theorem new_c (m : Int) (w : World) : Calls Try.prog 16 [.int .i64 m].toArray w fun e w' => ∃ p : Nat, e = .returned (.pointer (some ⟨p, 0, none⟩)) ∧ St noB w w' [CcP p (max m 0) [] 0 0] ∧ True := by
  refine GC.calls Try.func16 rfl rfl (St.begin _) ?_
  refine GC.seq ?_
  refine GC.reg ?_
  refine GL.val (rv_assign rfl) rfl ?_
  refine GL.nil ?_
  refine GX.then ?_
  refine GC.seq ?_
  refine GC.reg ?_
  refine GL.val (rv_move rfl) rfl ?_
  refine GL.val (rv_max0 Try.underlying3 rfl rfl) rfl ?_
  refine GL.val (rv_buildS pl_55 zb_55 rfl rfl (by first | ((simp only [bldL, repl, List.set_cons_zero, List.set_cons_succ, List.getElem?_cons_zero, List.getElem?_cons_succ, Option.getD_some, Value.cells]) <;> rfl) | rfl)) rfl ?_
  refine GL.step (ot_box rfl rfl rfl fun b6 => ?_)
  refine GL.val (rv_assign rfl) rfl ?_
  refine GL.nil ?_
  refine GX.then ?_
  refine GC.ret ?_
  refine GX.ret1 rfl (RR.tmp rfl) ?_
  exact fun w1 h1 => ⟨b6, rfl, St.cc (kv := []) (((h1.nilRow 3 1).nilRow 9 1).pull (k := 2) rfl), trivial⟩
end Go.Proofs.Ytjbnblkefhpibaa
