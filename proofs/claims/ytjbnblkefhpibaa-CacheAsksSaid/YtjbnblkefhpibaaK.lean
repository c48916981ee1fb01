import Derived.Test.YtjbnblkefhpibaaJ
set_option linter.unusedVariables false
set_option linter.unusedSimpArgs false
namespace Go.Proofs.Ytjbnblkefhpibaa
open Go Go.RowKit Go.Bz

theorem same_t (A B : Option Addr) (c d n n' : Nat) (a b : List ByteArray) (w : World) (hR : SlR w A (a.map .string)) (hR' : SlR w B (b.map .string)) (hl : a.length = n) (hl' : b.length = n') (hn : n ≤ 1000000) (e : a = b) :
    Calls Try.prog 14 [.slice A n c, .slice B n' d].toArray w fun e w' => ∃ _g : Unit, e = .returned (.bool true) ∧ St noB w w' [] ∧ True := by
  have := same_c A B c d n n' a b w hR hR' hl hl' hn
  rwa [decide_eq_true e] at this
set_option maxRecDepth 100000 in
set_option maxHeartbeats 1000000 in
theorem asks_law (most : Int) (A : Option Addr) (n c : Nat) (ol : List Bc.Op) (key : ByteArray) (w : World) (hR : SlR w A (opc ol)) (hl : ol.length = n) :
    Calls Try.prog 7 [.int .i64 most, .slice A n c, .string key].toArray w fun e w' => ∃ _g : Unit, e = .returned (.bool true) ∧ St noB w w' [] ∧ True := by
  refine GC.calls Try.func7 rfl rfl (St.begin _) ?_
  have HA := roHead hR
  subst hl
  refine GC.seq ?_
  refine GC.reg ?_
  refine GL.val (rv_assign rfl) rfl ?_
  refine GL.nil ?_
  refine GX.then ?_
  refine GC.seq ?_
  refine GC.reg ?_
  refine GL.val (rv_move rfl) rfl ?_
  refine GL.step (ot_call hb_8 rfl (callOk fun w hh => start_c most w) rfl fun p _ => ?_)
  refine GL.val (rv_move rfl) rfl ?_
  refine GL.val (rv_extract rfl rfl) rfl ?_
  refine GL.val (rv_extract rfl rfl) rfl ?_
  refine GL.step (ot_alloc (zs := [.int .i64 0, .slice none 0 0, .slice none 0 0, .int .i64 0, .int .i64 0]) zb_27 rfl rfl fun b8 => ?_)
  refine GL.val (rv_assign rfl) rfl ?_
  first | refine GL.step (ot_store (k := 0) rfl rfl rfl rfl sz_27 rfl rfl (by first | ((simp only [repl, List.set_cons_zero, List.set_cons_succ]) <;> rfl) | rfl) ?_) | refine GL.step (ot_store (k := 1) rfl rfl rfl rfl sz_27 rfl rfl (by first | ((simp only [repl, List.set_cons_zero, List.set_cons_succ]) <;> rfl) | rfl) ?_)
  refine GL.nil ?_
  refine GX.then ?_
  refine GC.seq ?_
  refine GC.seq ?_
  refine GC.reg ?_
  refine GL.val (rv_move rfl) rfl ?_
  refine GL.val (rv_ptrNil rfl rfl Try.underlying23) rfl ?_
  refine GL.nil ?_
  refine GX.then ?_
  first | refine GC.condP rfl (fun c1 => ?_) (fun c1 => ?_) | refine GC.cond rfl (fun c1 => ?_) (fun c1 => ?_)
  · exact absurd c1 (by simp)
  · refine GC.skip ?_
    refine GX.then ?_
    refine GC.seq ?_
    refine GC.seq ?_
    refine GC.reg ?_
    refine GL.val (rv_move rfl) rfl ?_
    refine GL.step (ot_call hb_9 rfl (callOk fun w hh => few_c A _ c w) rfl fun _ _ => ?_)
    refine GL.val (rv_not rfl) rfl ?_
    refine GL.nil ?_
    refine GX.then ?_
    first | refine GC.condP rfl (fun c2 => ?_) (fun c2 => ?_) | refine GC.cond rfl (fun c2 => ?_) (fun c2 => ?_)
    · have c2 : ¬ ol.length ≤ 200 := by simpa using c2
      refine GC.seq ?_
      refine GC.reg ?_
      refine GL.step (ot_call hb_10 rfl (callOk fun w hh => works_c w) rfl fun _ _ => ?_)
      refine GL.val (rv_assign rfl) rfl ?_
      refine GL.nil ?_
      refine GX.then ?_
      refine GC.ret ?_
      refine GX.then_ret ?_
      refine GX.ret1 rfl (RR.tmp rfl) ?_
      exact fun w1 h1 => ⟨(), rfl, h1.take 0, trivial⟩
    · have c2 : ol.length ≤ 200 := by simpa using c2
      refine GC.skip ?_
      refine GX.then ?_
      refine GC.seq ?_
      refine GC.seq ?_
      refine GC.reg ?_
      refine GL.val (rv_assign rfl) rfl ?_
      refine GL.nil ?_
      refine GX.then ?_
      refine GC.block ?_
      refine GC.loop (γ := Nat × (Option Addr × Nat) × (Option Addr × Nat)) (fun g => [(1, .slice A ol.length c), (2, .string key), (7, .pointer (some ⟨p, 0, none⟩)), (8, .pointer (some ⟨b8, 0, none⟩)), (9, .int .i64 (g.1 : Int))]) (fun g => [.cl b8 [.int .i64 (max (min most 1000) 0), .slice g.2.1.1 (Bc.run (max (min most 1000) 0) (ol.take g.1)).1.length g.2.1.2, .slice g.2.2.1 (Bc.run (max (min most 1000) 0) (ol.take g.1)).1.length g.2.2.2, .int .i64 (Bc.run (max (min most 1000) 0) (ol.take g.1)).2.1, .int .i64 (Bc.run (max (min most 1000) 0) (ol.take g.1)).2.2] 27, CcP p (max (min most 1000) 0) (Bc.run (max (min most 1000) 0) (ol.take g.1)).1 (Bc.run (max (min most 1000) 0) (ol.take g.1)).2.1 (Bc.run (max (min most 1000) 0) (ol.take g.1)).2.2, roP g.2.1.1 ((Bc.run (max (min most 1000) 0) (ol.take g.1)).1.map fun q => .string q.1), roP g.2.2.1 ((Bc.run (max (min most 1000) 0) (ol.take g.1)).1.map fun q => .int .i64 q.2)]) (fun g => g.1 ≤ ol.length) (fun g => ol.length - g.1) ((0, (none, 0), (none, 0))) (Nat.zero_le _) (by repeat (first | exact Sub.nil | refine Sub.cons rfl ?_)) (fun w h => (((St.roNil (St.roNil h)).pull (k := 2) rfl).pull (k := 3) rfl).pull (k := 1) rfl) (fun ⟨j, ⟨A9, c9⟩, ⟨B9, d9⟩⟩ hj => ?_)
      dsimp only at hj ⊢
      refine GC.seq ?_
      refine GC.seq ?_
      refine GC.reg ?_
      refine GL.val (rv_move rfl) rfl ?_
      refine GL.val (rv_move rfl) rfl ?_
      refine GL.val (rv_lenSl Try.underlying22 rfl) rfl ?_
      refine GL.val (rv_lss rfl rfl) rfl ?_
      refine GL.nil ?_
      refine GX.then ?_
      first | refine GC.condP rfl (fun c3 => ?_) (fun c3 => ?_) | refine GC.cond rfl (fun c3 => ?_) (fun c3 => ?_)
      · have hlt : j < ol.length := by omega
        obtain ⟨b, o, rfl, hC⟩ := HA.resolve_left (by omega)
        have hI := Bc.Inv.run (m := (max (min most 1000) 0)) (by omega) ol j (by omega)
        refine GC.skip ?_
        refine GX.then ?_
        refine GC.seq ?_
        refine GC.block ?_
        refine GC.st (fun w h => St.grp (Gs := [_, _, _]) (((h.pull (k := 3) rfl).pull (k := 3) rfl).pull (k := 3) rfl)) ?_
        refine GC.draw 10 [1] mo_ ?_
        refine GD.pure (i := 0) rfl (fun _ _ => rv_move rfl) (by kernel_rfl) (by repeat (first | exact noPanicPut_body | exact noPanicPut_cut | exact noPanicPut_cutE | refine noPanicPut_then ?_ | refine noPanicPut_blk ?_)) ?_
        refine GD.pure (i := 2) rfl (fun _ _ => rv_move rfl) (by kernel_rfl) (by repeat (first | exact noPanicPut_body | exact noPanicPut_cut | exact noPanicPut_cutE | refine noPanicPut_then ?_ | refine noPanicPut_blk ?_)) ?_
        refine GD.pure (i := 3) rfl (fun _ _ => rv_move rfl) (by kernel_rfl) (by repeat (first | exact noPanicPut_body | exact noPanicPut_cut | exact noPanicPut_cutE | refine noPanicPut_then ?_ | refine noPanicPut_blk ?_)) ?_
        refine GD.pure (i := 4) rfl (fun _ _ => rv_elem es_22 rfl rfl (by omega) (by omega)) (by kernel_rfl) (by repeat (first | exact noPanicPut_body | exact noPanicPut_cut | exact noPanicPut_cutE | refine noPanicPut_then ?_ | refine noPanicPut_blk ?_)) ?_
        refine GD.read (i := 1) rfl (rv_loadA ag_27 rfl (by first | exact Hd.cellsAll (k := 0) rfl | exact Hd.cells0 (by assumption) (by first | exact fun h => h | assumption)) (by exact sz_27)) (by kernel_rfl) (by repeat (first | exact noPanicPut_body | exact noPanicPut_cut | exact noPanicPut_cutE | refine noPanicPut_then ?_ | refine noPanicPut_blk ?_)) ?_
        refine GD.read (i := 5) rfl (rv_loadA ag_35 rfl (Hd.cells0 (opC hC hlt) (fun h => h)) (by exact sz_35)) (by kernel_rfl) (by repeat (first | exact noPanicPut_body | exact noPanicPut_cut | exact noPanicPut_cutE | refine noPanicPut_then ?_ | refine noPanicPut_blk ?_)) ?_
        refine GD.step (i := 6) (by kernel_rfl) rfl (ot_call hb_11 rfl (callOkM (k := 0) rfl fun w S _ hA hb => step_c p j (max (min most 1000) 0) (Bc.run (max (min most 1000) 0) (ol.take j)).2.1 (Bc.run (max (min most 1000) 0) (ol.take j)).2.2 ol[j].1 ol[j].2.2 ol[j].2.1 A9 B9 c9 d9 (Bc.run (max (min most 1000) 0) (ol.take j)).1 w S hA hb hI (by omega)) rfl fun g38 _ => ⟨.inr fun _ h => h.pk [3], ?_⟩)
        obtain ⟨⟨A38, c38⟩, ⟨B38, d38⟩⟩ := g38
        refine GD.pure (i := 7) rfl (fun _ _ => rv_move rfl) (by kernel_rfl) (by repeat (first | exact noPanicPut_body | exact noPanicPut_cut | exact noPanicPut_cutE | refine noPanicPut_then ?_ | refine noPanicPut_blk ?_)) ?_
        refine GD.pure (i := 8) rfl (fun _ _ => rv_extract rfl rfl) (by kernel_rfl) (by repeat (first | exact noPanicPut_body | exact noPanicPut_cut | exact noPanicPut_cutE | refine noPanicPut_then ?_ | refine noPanicPut_blk ?_)) ?_
        refine GD.pure (i := 9) rfl (fun _ _ => rv_extract rfl rfl) (by kernel_rfl) (by repeat (first | exact noPanicPut_body | exact noPanicPut_cut | exact noPanicPut_cutE | refine noPanicPut_then ?_ | refine noPanicPut_blk ?_)) ?_
        first | refine GD.step (i := 10) (by kernel_rfl) rfl (ot_store (k := 0) rfl rfl rfl rfl sz_27 rfl rfl (by first | ((simp only [repl, List.set_cons_zero, List.set_cons_succ]) <;> rfl) | rfl) ⟨.inl rfl, ?_⟩) | refine GD.step (i := 10) (by kernel_rfl) rfl (ot_store (k := 1) rfl rfl rfl rfl sz_27 rfl rfl (by first | ((simp only [repl, List.set_cons_zero, List.set_cons_succ]) <;> rfl) | rfl) ⟨.inl rfl, ?_⟩) | refine GD.step (i := 10) (by kernel_rfl) rfl (ot_store (k := 2) rfl rfl rfl rfl sz_27 rfl rfl (by first | ((simp only [repl, List.set_cons_zero, List.set_cons_succ]) <;> rfl) | rfl) ⟨.inl rfl, ?_⟩) | refine GD.step (i := 10) (by kernel_rfl) rfl (ot_store (k := 3) rfl rfl rfl rfl sz_27 rfl rfl (by first | ((simp only [repl, List.set_cons_zero, List.set_cons_succ]) <;> rfl) | rfl) ⟨.inl rfl, ?_⟩)
        refine GD.done (by kernel_rfl) ?_
        refine GX.blk ?_
        refine GX.then ?_
        refine GC.reg ?_
        refine GL.val (rv_move rfl) rfl ?_
        refine GL.val (rv_add rfl rfl (by omega) (by omega)) rfl ?_
        refine GL.val (rv_assign rfl) rfl ?_
        refine GL.nil ?_
        exact GX.round (j + 1, (A38, c38), (B38, d38)) (by show _ - (j + 1) < _ - j; omega) (by show j + 1 ≤ _; omega) (by repeat (first | exact Sub.nil | refine Sub.cons rfl ?_)) (fun w h => by dsimp only; rw [Bc.run_take (max (min most 1000) 0) ol j hlt]; exact h.pull (k := 3) rfl)
      · refine GC.exit ?_
        refine GX.then_exit ?_
        refine GX.then_exit ?_
        refine GX.blk_eq ?_
        refine GX.then ?_
        refine GC.seq ?_
        have hI := Bc.Inv.run (m := (max (min most 1000) 0)) (by omega) ol j hj
        have hh0 := hI.h0
        have hh1 : (Bc.run (max (min most 1000) 0) (ol.take j)).2.1 ≤ 1000 := by have := hI.h1; omega
        have hs0 := hI.s0
        have hs1 : (Bc.run (max (min most 1000) 0) (ol.take j)).2.2 ≤ 1000 := by have := hI.s1; omega
        have hn := hI.len
        have hgl := Bc.ge_len (Bc.run (max (min most 1000) 0) (ol.take j)).1 key hI.nd
        have hH0 : 0 ≤ (if Bc.hs (Bc.run (max (min most 1000) 0) (ol.take j)).1 key = true then (Bc.run (max (min most 1000) 0) (ol.take j)).2.1 + 1 else (Bc.run (max (min most 1000) 0) (ol.take j)).2.1) := by split <;> omega
        have hH1 : (if Bc.hs (Bc.run (max (min most 1000) 0) (ol.take j)).1 key = true then (Bc.run (max (min most 1000) 0) (ol.take j)).2.1 + 1 else (Bc.run (max (min most 1000) 0) (ol.take j)).2.1) ≤ 1000000 := by split <;> omega
        have hS0 : 0 ≤ (if Bc.hs (Bc.run (max (min most 1000) 0) (ol.take j)).1 key = true then (Bc.run (max (min most 1000) 0) (ol.take j)).2.2 else (Bc.run (max (min most 1000) 0) (ol.take j)).2.2 + 1) := by split <;> omega
        have hS1 : (if Bc.hs (Bc.run (max (min most 1000) 0) (ol.take j)).1 key = true then (Bc.run (max (min most 1000) 0) (ol.take j)).2.2 else (Bc.run (max (min most 1000) 0) (ol.take j)).2.2 + 1) ≤ 1000000 := by split <;> omega
        refine GC.reg ?_
        refine GL.val (rv_move rfl) rfl ?_
        refine GL.step (ot_call hb_15 rfl (callOkM (k := 1) rfl fun w S _ hA hb => keys_c p (max (min most 1000) 0) (Bc.run (max (min most 1000) 0) (ol.take j)).2.1 (Bc.run (max (min most 1000) 0) (ol.take j)).2.2 (Bc.run (max (min most 1000) 0) (ol.take j)).1 w S hA hb (by omega) hh0 (by omega) hs0 (by omega)) rfl fun ⟨A45, c45⟩ _ => ?_)
        refine GL.val (rv_assign rfl) rfl ?_
        refine GL.nil ?_
        refine GX.then ?_
        refine GC.seq ?_
        refine GC.reg ?_
        refine GL.val (rv_move rfl) rfl ?_
        refine GL.val (rv_move rfl) rfl ?_
        refine GL.step (ot_call hb_12 rfl (callOkM (k := 0) rfl fun w S _ hA hb => get_u p (max (min most 1000) 0) (Bc.run (max (min most 1000) 0) (ol.take j)).2.1 (Bc.run (max (min most 1000) 0) (ol.take j)).2.2 key (Bc.run (max (min most 1000) 0) (ol.take j)).1 w S hA hb (by omega) hh0 (by omega) hs0 (by omega) hI.nd) rfl fun _ _ => ?_)
        refine GL.val (rv_move rfl) rfl ?_
        refine GL.val (rv_extract rfl rfl) rfl ?_
        refine GL.val (rv_extract rfl rfl) rfl ?_
        refine GL.val (rv_assign rfl) rfl ?_
        refine GL.val (rv_assign rfl) rfl ?_
        refine GL.nil ?_
        refine GX.then ?_
        refine GC.seq ?_
        refine GC.reg ?_
        refine GL.val (rv_move rfl) rfl ?_
        refine GL.step (ot_call hb_15 rfl (callOkM (k := 0) rfl fun w S _ hA hb => keys_c p (max (min most 1000) 0) (if Bc.hs (Bc.run (max (min most 1000) 0) (ol.take j)).1 key = true then (Bc.run (max (min most 1000) 0) (ol.take j)).2.1 + 1 else (Bc.run (max (min most 1000) 0) (ol.take j)).2.1) (if Bc.hs (Bc.run (max (min most 1000) 0) (ol.take j)).1 key = true then (Bc.run (max (min most 1000) 0) (ol.take j)).2.2 else (Bc.run (max (min most 1000) 0) (ol.take j)).2.2 + 1) (Bc.ge (Bc.run (max (min most 1000) 0) (ol.take j)).1 key) w S hA hb (by omega) hH0 hH1 hS0 hS1) rfl fun ⟨A53, c53⟩ _ => ?_)
        refine GL.val (rv_assign rfl) rfl ?_
        refine GL.nil ?_
        refine GX.then ?_
        refine GC.seq ?_
        refine GC.seq ?_
        refine GC.cutr ([(2, .string key), (10, .slice A45 (Bc.run (max (min most 1000) 0) (ol.take j)).1.length c45), (12, .bool (Bc.hs (Bc.run (max (min most 1000) 0) (ol.take j)).1 key)), (13, .slice A53 (Bc.ge (Bc.run (max (min most 1000) 0) (ol.take j)).1 key).length c53), (71, .bool false)]) ([CcP p (max (min most 1000) 0) (Bc.ge (Bc.run (max (min most 1000) 0) (ol.take j)).1 key) (if Bc.hs (Bc.run (max (min most 1000) 0) (ol.take j)).1 key = true then (Bc.run (max (min most 1000) 0) (ol.take j)).2.1 + 1 else (Bc.run (max (min most 1000) 0) (ol.take j)).2.1) (if Bc.hs (Bc.run (max (min most 1000) 0) (ol.take j)).1 key = true then (Bc.run (max (min most 1000) 0) (ol.take j)).2.2 else (Bc.run (max (min most 1000) 0) (ol.take j)).2.2 + 1), .row A53 c53 9 1 (Bc.ge (Bc.run (max (min most 1000) 0) (ol.take j)).1 key).length ((Bc.ge (Bc.run (max (min most 1000) 0) (ol.take j)).1 key).map fun q => .string q.1), .row A45 c45 9 1 (Bc.run (max (min most 1000) 0) (ol.take j)).1.length ((Bc.run (max (min most 1000) 0) (ol.take j)).1.map fun q => .string q.1)]) ?_ ?_
        · rcases Bool.eq_false_or_eq_true (Bc.hs (Bc.run (max (min most 1000) 0) (ol.take j)).1 key) with hk | hk
          · have hpos := (Bc.hs_iff _ _).1 hk
            refine GC.rowForm (k := 1) rfl fun _ hc1 hf1 => ?_
            obtain ⟨b2, rfl⟩ := hf1.resolve_left (by omega)
            simp only [hk]
            refine GC.reg ?_
            refine GL.val (rv_move rfl) rfl ?_
            refine GL.val (rv_lenSl Try.underlying24 rfl) rfl ?_
            refine GL.val (rv_move rfl) rfl ?_
            refine GL.val (rv_lenSl Try.underlying24 rfl) rfl ?_
            refine GL.val ((by first | exact rv_to (v' := .bool true) (rv_neI rfl rfl) (by simp only [Value.bool.injEq, decide_eq_true_eq, decide_eq_false_iff_not]; omega) | exact rv_to (v' := .bool false) (rv_neI rfl rfl) (by simp only [Value.bool.injEq, decide_eq_true_eq, decide_eq_false_iff_not]; omega))) rfl ?_
            refine GL.val (rv_move rfl) rfl ?_
            first | refine GL.skipG rfl rfl ?_ | refine GL.skipU rfl rfl ?_ | refine GL.valT rfl (rv_move rfl) rfl ?_ | refine GL.valG rfl (fun hb => rv_move (by first | exact evb rfl hb | rfl)) rfl ?_
            first | refine GL.skipG rfl rfl ?_ | refine GL.skipU rfl rfl ?_ | refine GL.valT rfl (rv_move rfl) rfl ?_ | refine GL.valG rfl (fun hb => rv_move (by first | exact evb rfl hb | rfl)) rfl ?_
            first | refine GL.skipG rfl rfl ?_ | refine GL.skipU rfl rfl ?_ | refine GL.valT rfl (rv_move rfl) rfl ?_ | refine GL.valG rfl (fun hb => rv_move (by first | exact evb rfl hb | rfl)) rfl ?_
            first | refine GL.skipG rfl rfl ?_ | refine GL.skipU rfl rfl ?_ | refine GL.valT rfl (rv_move rfl) rfl ?_ | refine GL.valG rfl (fun hb => rv_move (by first | exact evb rfl hb | rfl)) rfl ?_
            first | refine GL.skipG rfl rfl ?_ | refine GL.skipU rfl rfl ?_ | refine GL.valT rfl (rv_lenSl Try.underlying24 rfl) rfl ?_ | refine GL.valG rfl (fun hb => rv_lenSl Try.underlying24 (by first | exact evb rfl hb | rfl)) rfl ?_
            first | refine GL.skipG rfl rfl ?_ | refine GL.skipU rfl rfl ?_ | refine GL.valT rfl (rv_to (v' := .int .i64 (((Bc.ge (Bc.run (max (min most 1000) 0) (ol.take j)).1 key).length - 1 : Nat) : Int)) (rv_sub rfl rfl (by omega) (by omega)) (by rw [show (((Bc.ge (Bc.run (max (min most 1000) 0) (ol.take j)).1 key).length - 1 : Nat) : Int) = ((Bc.ge (Bc.run (max (min most 1000) 0) (ol.take j)).1 key).length : Int) - 1 by omega])) rfl ?_ | refine GL.valG rfl (fun hb => rv_to (v' := .int .i64 (((Bc.ge (Bc.run (max (min most 1000) 0) (ol.take j)).1 key).length - 1 : Nat) : Int)) (rv_sub (by first | exact evb rfl hb | rfl) (by first | exact evb rfl hb | rfl) (by omega) (by omega)) (by rw [show (((Bc.ge (Bc.run (max (min most 1000) 0) (ol.take j)).1 key).length - 1 : Nat) : Int) = ((Bc.ge (Bc.run (max (min most 1000) 0) (ol.take j)).1 key).length : Int) - 1 by omega])) rfl ?_
            first | refine GL.skipG rfl rfl ?_ | refine GL.skipU rfl rfl ?_ | refine GL.valT rfl (rv_elem es_24 rfl rfl (by omega) (by omega)) rfl ?_ | refine GL.valG rfl (fun hb => rv_elem es_24 (by first | exact evb rfl hb | rfl) (by first | exact evb rfl hb | rfl) (by omega) (by omega)) rfl ?_
            first | refine GL.skipG rfl rfl ?_ | refine GL.skipU rfl rfl ?_ | refine GL.valT rfl (rv_load ag_9 rfl (Hd.rowCell (k := 1) (u := .string key) rfl (by have := Bc.ge_last _ _ hk; simpa using this))) rfl ?_ | refine GL.valG rfl (fun hb => rv_load ag_9 (by first | exact evb rfl hb | rfl) (Hd.rowCell (k := 1) (u := .string key) (by first | exact evb rfl hb | rfl) (by have := Bc.ge_last _ _ hk; simpa using this))) rfl ?_
            first | refine GL.skipG rfl rfl ?_ | refine GL.skipU rfl rfl ?_ | refine GL.valT rfl (rv_move rfl) rfl ?_ | refine GL.valG rfl (fun hb => rv_move (by first | exact evb rfl hb | rfl)) rfl ?_
            first | refine GL.skipG rfl rfl ?_ | refine GL.skipU rfl rfl ?_ | refine GL.valT rfl (rv_to (v' := .bool false) (rv_neS rfl rfl) (by simp)) rfl ?_ | refine GL.valG rfl (fun hb => rv_to (v' := .bool false) (rv_neS (by first | exact evb rfl hb | rfl) (by first | exact evb rfl hb | rfl)) (by simp)) rfl ?_
            first | refine GL.skipG rfl rfl ?_ | refine GL.skipU rfl rfl ?_ | refine GL.valT rfl ((by first | exact rv_andT rfl rfl rfl | exact rv_andF rfl rfl rfl | exact rv_pickAnd rfl rfl rfl)) rfl ?_ | refine GL.valG rfl (fun hb => (by first | exact rv_andT (by first | exact evb rfl hb | rfl) (by first | exact evb rfl hb | rfl) (by first | exact evb rfl hb | rfl) | exact rv_andF (by first | exact evb rfl hb | rfl) (by first | exact evb rfl hb | rfl) (by first | exact evb rfl hb | rfl) | exact rv_pickAnd (by first | exact evb rfl hb | rfl) (by first | exact evb rfl hb | rfl) (by first | exact evb rfl hb | rfl))) rfl ?_
            refine GL.val ((by first | exact rv_orF rfl rfl rfl | exact rv_orT rfl rfl rfl | exact rv_pickOr rfl rfl rfl)) rfl ?_
            refine GL.nil ?_
            exact GX.cut (by repeat (first | exact Sub.nil | refine Sub.cons rfl ?_)) (fun w h => h.take 3)
          · simp only [hk]
            refine GC.reg ?_
            refine GL.val (rv_move rfl) rfl ?_
            refine GL.val (rv_lenSl Try.underlying24 rfl) rfl ?_
            refine GL.val (rv_move rfl) rfl ?_
            refine GL.val (rv_lenSl Try.underlying24 rfl) rfl ?_
            refine GL.val ((by first | exact rv_to (v' := .bool true) (rv_neI rfl rfl) (by simp only [Value.bool.injEq, decide_eq_true_eq, decide_eq_false_iff_not]; omega) | exact rv_to (v' := .bool false) (rv_neI rfl rfl) (by simp only [Value.bool.injEq, decide_eq_true_eq, decide_eq_false_iff_not]; omega))) rfl ?_
            refine GL.val (rv_move rfl) rfl ?_
            first | refine GL.skipG rfl rfl ?_ | refine GL.skipU rfl rfl ?_ | refine GL.valT rfl (rv_move rfl) rfl ?_ | refine GL.valG rfl (fun hb => rv_move (by first | exact evb rfl hb | rfl)) rfl ?_
            first | refine GL.skipG rfl rfl ?_ | refine GL.skipU rfl rfl ?_ | refine GL.valT rfl (rv_move rfl) rfl ?_ | refine GL.valG rfl (fun hb => rv_move (by first | exact evb rfl hb | rfl)) rfl ?_
            first | refine GL.skipG rfl rfl ?_ | refine GL.skipU rfl rfl ?_ | refine GL.valT rfl (rv_move rfl) rfl ?_ | refine GL.valG rfl (fun hb => rv_move (by first | exact evb rfl hb | rfl)) rfl ?_
            first | refine GL.skipG rfl rfl ?_ | refine GL.skipU rfl rfl ?_ | refine GL.valT rfl (rv_move rfl) rfl ?_ | refine GL.valG rfl (fun hb => rv_move (by first | exact evb rfl hb | rfl)) rfl ?_
            first | refine GL.skipG rfl rfl ?_ | refine GL.skipU rfl rfl ?_ | refine GL.valT rfl (rv_lenSl Try.underlying24 rfl) rfl ?_ | refine GL.valG rfl (fun hb => rv_lenSl Try.underlying24 (by first | exact evb rfl hb | rfl)) rfl ?_
            first | refine GL.skipG rfl rfl ?_ | refine GL.skipU rfl rfl ?_ | refine GL.valT rfl (rv_to (v' := .int .i64 (((Bc.ge (Bc.run (max (min most 1000) 0) (ol.take j)).1 key).length - 1 : Nat) : Int)) (rv_sub rfl rfl (by omega) (by omega)) (by rw [show (((Bc.ge (Bc.run (max (min most 1000) 0) (ol.take j)).1 key).length - 1 : Nat) : Int) = ((Bc.ge (Bc.run (max (min most 1000) 0) (ol.take j)).1 key).length : Int) - 1 by omega])) rfl ?_ | refine GL.valG rfl (fun hb => rv_to (v' := .int .i64 (((Bc.ge (Bc.run (max (min most 1000) 0) (ol.take j)).1 key).length - 1 : Nat) : Int)) (rv_sub (by first | exact evb rfl hb | rfl) (by first | exact evb rfl hb | rfl) (by omega) (by omega)) (by rw [show (((Bc.ge (Bc.run (max (min most 1000) 0) (ol.take j)).1 key).length - 1 : Nat) : Int) = ((Bc.ge (Bc.run (max (min most 1000) 0) (ol.take j)).1 key).length : Int) - 1 by omega])) rfl ?_
            first | refine GL.skipG rfl rfl ?_ | refine GL.skipU rfl rfl ?_ | refine GL.valT rfl (rv_elem es_24 rfl rfl (by omega) (by omega)) rfl ?_ | refine GL.valG rfl (fun hb => rv_elem es_24 (by first | exact evb rfl hb | rfl) (by first | exact evb rfl hb | rfl) (by omega) (by omega)) rfl ?_
            first | refine GL.skipG rfl rfl ?_ | refine GL.skipU rfl rfl ?_ | refine GL.valT rfl (rv_load ag_9 rfl (Hd.rowCell (k := 1) (u := .string key) rfl (by have := Bc.ge_last _ _ hk; simpa using this))) rfl ?_ | refine GL.valG rfl (fun hb => rv_load ag_9 (by first | exact evb rfl hb | rfl) (Hd.rowCell (k := 1) (u := .string key) (by first | exact evb rfl hb | rfl) (by have := Bc.ge_last _ _ hk; simpa using this))) rfl ?_
            first | refine GL.skipG rfl rfl ?_ | refine GL.skipU rfl rfl ?_ | refine GL.valT rfl (rv_move rfl) rfl ?_ | refine GL.valG rfl (fun hb => rv_move (by first | exact evb rfl hb | rfl)) rfl ?_
            first | refine GL.skipG rfl rfl ?_ | refine GL.skipU rfl rfl ?_ | refine GL.valT rfl (rv_to (v' := .bool false) (rv_neS rfl rfl) (by simp)) rfl ?_ | refine GL.valG rfl (fun hb => rv_to (v' := .bool false) (rv_neS (by first | exact evb rfl hb | rfl) (by first | exact evb rfl hb | rfl)) (by simp)) rfl ?_
            first | refine GL.skipG rfl rfl ?_ | refine GL.skipU rfl rfl ?_ | refine GL.valT rfl ((by first | exact rv_andT rfl rfl rfl | exact rv_andF rfl rfl rfl | exact rv_pickAnd rfl rfl rfl)) rfl ?_ | refine GL.valG rfl (fun hb => (by first | exact rv_andT (by first | exact evb rfl hb | rfl) (by first | exact evb rfl hb | rfl) (by first | exact evb rfl hb | rfl) | exact rv_andF (by first | exact evb rfl hb | rfl) (by first | exact evb rfl hb | rfl) (by first | exact evb rfl hb | rfl) | exact rv_pickAnd (by first | exact evb rfl hb | rfl) (by first | exact evb rfl hb | rfl) (by first | exact evb rfl hb | rfl))) rfl ?_
            refine GL.val ((by first | exact rv_orF rfl rfl rfl | exact rv_orT rfl rfl rfl | exact rv_pickOr rfl rfl rfl)) rfl ?_
            refine GL.nil ?_
            exact GX.cut (by repeat (first | exact Sub.nil | refine Sub.cons rfl ?_)) (fun w h => h.take 3)
        refine GX.then ?_
        first | refine GC.condP rfl (fun c4 => ?_) (fun c4 => ?_) | refine GC.cond rfl (fun c4 => ?_) (fun c4 => ?_)
        · exact absurd c4 (by simp)
        · refine GC.skip ?_
          refine GX.then ?_
          refine GC.seq ?_
          refine GC.reg ?_
          refine GL.val (rv_assign rfl) rfl ?_
          refine GL.val (rv_assign rfl) rfl ?_
          refine GL.nil ?_
          refine GX.then ?_
          refine GC.seq ?_
          refine GC.seq ?_
          refine GC.reg ?_
          refine GL.val (rv_assign rfl) rfl ?_
          refine GL.nil ?_
          refine GX.then ?_
          refine GC.block ?_
          refine GC.loop (γ := Nat × (Option Addr × Nat) × (Option Addr × Nat)) (fun g => [(2, .string key), (10, .slice A45 (Bc.run (max (min most 1000) 0) (ol.take j)).1.length c45), (12, .bool (Bc.hs (Bc.run (max (min most 1000) 0) (ol.take j)).1 key)), (13, .slice A53 (Bc.ge (Bc.run (max (min most 1000) 0) (ol.take j)).1 key).length c53), (14, .slice g.2.1.1 (Bc.fl (Bc.Ky (Bc.run (max (min most 1000) 0) (ol.take j)).1) key g.1).length g.2.1.2), (15, .slice g.2.2.1 (Bc.fl (Bc.Ky (Bc.ge (Bc.run (max (min most 1000) 0) (ol.take j)).1 key)) key g.1).length g.2.2.2), (16, .int .i64 (g.1 : Int))]) (fun g => [.row g.2.1.1 g.2.1.2 9 1 (Bc.fl (Bc.Ky (Bc.run (max (min most 1000) 0) (ol.take j)).1) key g.1).length ((Bc.fl (Bc.Ky (Bc.run (max (min most 1000) 0) (ol.take j)).1) key g.1).map .string), .row g.2.2.1 g.2.2.2 9 1 (Bc.fl (Bc.Ky (Bc.ge (Bc.run (max (min most 1000) 0) (ol.take j)).1 key)) key g.1).length ((Bc.fl (Bc.Ky (Bc.ge (Bc.run (max (min most 1000) 0) (ol.take j)).1 key)) key g.1).map .string), CcP p (max (min most 1000) 0) (Bc.ge (Bc.run (max (min most 1000) 0) (ol.take j)).1 key) (if Bc.hs (Bc.run (max (min most 1000) 0) (ol.take j)).1 key = true then (Bc.run (max (min most 1000) 0) (ol.take j)).2.1 + 1 else (Bc.run (max (min most 1000) 0) (ol.take j)).2.1) (if Bc.hs (Bc.run (max (min most 1000) 0) (ol.take j)).1 key = true then (Bc.run (max (min most 1000) 0) (ol.take j)).2.2 else (Bc.run (max (min most 1000) 0) (ol.take j)).2.2 + 1), .row A53 c53 9 1 (Bc.ge (Bc.run (max (min most 1000) 0) (ol.take j)).1 key).length ((Bc.ge (Bc.run (max (min most 1000) 0) (ol.take j)).1 key).map fun q => .string q.1), .row A45 c45 9 1 (Bc.run (max (min most 1000) 0) (ol.take j)).1.length ((Bc.run (max (min most 1000) 0) (ol.take j)).1.map fun q => .string q.1)]) (fun g => g.1 ≤ (Bc.run (max (min most 1000) 0) (ol.take j)).1.length) (fun g => (Bc.run (max (min most 1000) 0) (ol.take j)).1.length - g.1) ((0, (none, 0), (none, 0))) (Nat.zero_le _) (by repeat (first | exact Sub.nil | refine Sub.cons rfl ?_)) (fun w h => (h.nilRow 9 1).nilRow 9 1) (fun ⟨i, ⟨A14, c14⟩, ⟨A15, c15⟩⟩ hi0 => ?_)
          dsimp only at hi0 ⊢
          refine GC.seq ?_
          refine GC.seq ?_
          refine GC.reg ?_
          refine GL.val (rv_move rfl) rfl ?_
          refine GL.val (rv_move rfl) rfl ?_
          refine GL.val (rv_lenSl Try.underlying24 rfl) rfl ?_
          refine GL.val (rv_lss rfl rfl) rfl ?_
          refine GL.nil ?_
          refine GX.then ?_
          first | refine GC.condP rfl (fun c5 => ?_) (fun c5 => ?_) | refine GC.cond rfl (fun c5 => ?_) (fun c5 => ?_)
          · have hi : i < (Bc.run (max (min most 1000) 0) (ol.take j)).1.length := by omega
            have hi' : i < (Bc.ge (Bc.run (max (min most 1000) 0) (ol.take j)).1 key).length := by omega
            refine GC.rowForm (k := 3) rfl fun _ hc3 hf3 => ?_
            refine GC.rowForm (k := 4) rfl fun _ hc4 hf4 => ?_
            obtain ⟨b2, rfl⟩ := hf3.resolve_left (by omega)
            obtain ⟨b1, rfl⟩ := hf4.resolve_left (by omega)
            have hfl0 : (Bc.fl (Bc.Ky (Bc.run (max (min most 1000) 0) (ol.take j)).1) key i).length ≤ 1000 := by have := Bc.fl_len (Bc.Ky (Bc.run (max (min most 1000) 0) (ol.take j)).1) key i; simp only [Bc.Ky, List.length_map] at this ⊢; omega
            have hfl1 : (Bc.fl (Bc.Ky (Bc.ge (Bc.run (max (min most 1000) 0) (ol.take j)).1 key)) key i).length ≤ 1000 := by have := Bc.fl_len (Bc.Ky (Bc.ge (Bc.run (max (min most 1000) 0) (ol.take j)).1 key)) key i; simp only [Bc.Ky, List.length_map] at this ⊢; omega
            refine GC.skip ?_
            refine GX.then ?_
            refine GC.seq ?_
            refine GC.block ?_
            refine GC.seq ?_
            refine GC.seq ?_
            refine GC.reg ?_
            refine GL.val (rv_move rfl) rfl ?_
            refine GL.val (rv_move rfl) rfl ?_
            refine GL.val (rv_elem es_24 rfl rfl (by omega) (by omega)) rfl ?_
            refine GL.val (rv_load ag_9 rfl (Hd.rowCell (k := 4) (u := .string (Bc.run (max (min most 1000) 0) (ol.take j)).1[i].1) rfl (by simp [hi]))) rfl ?_
            refine GL.val (rv_move rfl) rfl ?_
            refine GL.val (rv_neS rfl rfl) rfl ?_
            refine GL.nil ?_
            refine GX.then ?_
            first | refine GC.condP rfl (fun c6 => ?_) (fun c6 => ?_) | refine GC.cond rfl (fun c6 => ?_) (fun c6 => ?_)
            · refine GC.reg ?_
              refine GL.val (rv_move rfl) rfl ?_
              refine GL.val (rv_move rfl) rfl ?_
              refine GL.val (rv_move rfl) rfl ?_
              refine GL.val (rv_elem es_24 rfl rfl (by omega) (by omega)) rfl ?_
              refine GL.val (rv_load ag_9 rfl (Hd.rowCell (k := 4) (u := .string (Bc.run (max (min most 1000) 0) (ol.take j)).1[i].1) rfl (by simp [hi]))) rfl ?_
              refine GL.step (ot_buildSlice ei_24 rfl rfl rfl rfl rfl rfl fun b89 => ?_)
              first | refine GL.step (ot_append (k := 1) ei_24 rfl rfl rfl (by rfl) (fun w h => .inr ⟨_, _, rfl, Hd.cellsAll (k := 0) rfl w h⟩) (by rfl) (by omega) (by decide) rfl fun A90 c90 z90 => ?_) | refine GL.step (ot_append (k := 2) ei_24 rfl rfl rfl (by rfl) (fun w h => .inr ⟨_, _, rfl, Hd.cellsAll (k := 0) rfl w h⟩) (by rfl) (by omega) (by decide) rfl fun A90 c90 z90 => ?_) | refine GL.step (ot_append (k := 3) ei_24 rfl rfl rfl (by rfl) (fun w h => .inr ⟨_, _, rfl, Hd.cellsAll (k := 0) rfl w h⟩) (by rfl) (by omega) (by decide) rfl fun A90 c90 z90 => ?_) | refine GL.step (ot_append (k := 4) ei_24 rfl rfl rfl (by rfl) (fun w h => .inr ⟨_, _, rfl, Hd.cellsAll (k := 0) rfl w h⟩) (by rfl) (by omega) (by decide) rfl fun A90 c90 z90 => ?_) | refine GL.step (ot_append (k := 5) ei_24 rfl rfl rfl (by rfl) (fun w h => .inr ⟨_, _, rfl, Hd.cellsAll (k := 0) rfl w h⟩) (by rfl) (by omega) (by decide) rfl fun A90 c90 z90 => ?_) | refine GL.step (ot_append (k := 0) ei_24 rfl rfl rfl (by rfl) (fun w h => .inr ⟨_, _, rfl, Hd.cellsAll (k := 1) rfl w h⟩) (by rfl) (by omega) (by decide) rfl fun A90 c90 z90 => ?_) | refine GL.step (ot_append (k := 2) ei_24 rfl rfl rfl (by rfl) (fun w h => .inr ⟨_, _, rfl, Hd.cellsAll (k := 1) rfl w h⟩) (by rfl) (by omega) (by decide) rfl fun A90 c90 z90 => ?_) | refine GL.step (ot_append (k := 3) ei_24 rfl rfl rfl (by rfl) (fun w h => .inr ⟨_, _, rfl, Hd.cellsAll (k := 1) rfl w h⟩) (by rfl) (by omega) (by decide) rfl fun A90 c90 z90 => ?_) | refine GL.step (ot_append (k := 4) ei_24 rfl rfl rfl (by rfl) (fun w h => .inr ⟨_, _, rfl, Hd.cellsAll (k := 1) rfl w h⟩) (by rfl) (by omega) (by decide) rfl fun A90 c90 z90 => ?_) | refine GL.step (ot_append (k := 5) ei_24 rfl rfl rfl (by rfl) (fun w h => .inr ⟨_, _, rfl, Hd.cellsAll (k := 1) rfl w h⟩) (by rfl) (by omega) (by decide) rfl fun A90 c90 z90 => ?_)
              refine GL.st (fun w h => h.drop 0) ?_
              refine GL.val (rv_assign rfl) rfl ?_
              refine GL.nil ?_
              refine GX.then ?_
              refine GC.seq ?_
              refine GC.reg ?_
              refine GL.val (rv_move rfl) rfl ?_
              refine GL.val (rv_move rfl) rfl ?_
              refine GL.val (rv_elem es_24 rfl rfl (by omega) (by omega)) rfl ?_
              refine GL.val (rv_load ag_9 rfl (Hd.rowCell (k := 3) (u := .string (Bc.ge (Bc.run (max (min most 1000) 0) (ol.take j)).1 key)[i].1) rfl (by simp [hi']))) rfl ?_
              refine GL.val (rv_move rfl) rfl ?_
              refine GL.val (rv_neS rfl rfl) rfl ?_
              refine GL.nil ?_
              refine GX.then ?_
              first | refine GC.condP rfl (fun c7 => ?_) (fun c7 => ?_) | refine GC.cond rfl (fun c7 => ?_) (fun c7 => ?_)
              · refine GC.reg ?_
                refine GL.val (rv_move rfl) rfl ?_
                refine GL.val (rv_move rfl) rfl ?_
                refine GL.val (rv_move rfl) rfl ?_
                refine GL.val (rv_elem es_24 rfl rfl (by omega) (by omega)) rfl ?_
                refine GL.val (rv_load ag_9 rfl (Hd.rowCell (k := 3) (u := .string (Bc.ge (Bc.run (max (min most 1000) 0) (ol.take j)).1 key)[i].1) rfl (by simp [hi']))) rfl ?_
                refine GL.step (ot_buildSlice ei_24 rfl rfl rfl rfl rfl rfl fun b102 => ?_)
                first | refine GL.step (ot_append (k := 1) ei_24 rfl rfl rfl (by rfl) (fun w h => .inr ⟨_, _, rfl, Hd.cellsAll (k := 0) rfl w h⟩) (by rfl) (by omega) (by decide) rfl fun A103 c103 z103 => ?_) | refine GL.step (ot_append (k := 2) ei_24 rfl rfl rfl (by rfl) (fun w h => .inr ⟨_, _, rfl, Hd.cellsAll (k := 0) rfl w h⟩) (by rfl) (by omega) (by decide) rfl fun A103 c103 z103 => ?_) | refine GL.step (ot_append (k := 3) ei_24 rfl rfl rfl (by rfl) (fun w h => .inr ⟨_, _, rfl, Hd.cellsAll (k := 0) rfl w h⟩) (by rfl) (by omega) (by decide) rfl fun A103 c103 z103 => ?_) | refine GL.step (ot_append (k := 4) ei_24 rfl rfl rfl (by rfl) (fun w h => .inr ⟨_, _, rfl, Hd.cellsAll (k := 0) rfl w h⟩) (by rfl) (by omega) (by decide) rfl fun A103 c103 z103 => ?_) | refine GL.step (ot_append (k := 5) ei_24 rfl rfl rfl (by rfl) (fun w h => .inr ⟨_, _, rfl, Hd.cellsAll (k := 0) rfl w h⟩) (by rfl) (by omega) (by decide) rfl fun A103 c103 z103 => ?_) | refine GL.step (ot_append (k := 0) ei_24 rfl rfl rfl (by rfl) (fun w h => .inr ⟨_, _, rfl, Hd.cellsAll (k := 1) rfl w h⟩) (by rfl) (by omega) (by decide) rfl fun A103 c103 z103 => ?_) | refine GL.step (ot_append (k := 2) ei_24 rfl rfl rfl (by rfl) (fun w h => .inr ⟨_, _, rfl, Hd.cellsAll (k := 1) rfl w h⟩) (by rfl) (by omega) (by decide) rfl fun A103 c103 z103 => ?_) | refine GL.step (ot_append (k := 3) ei_24 rfl rfl rfl (by rfl) (fun w h => .inr ⟨_, _, rfl, Hd.cellsAll (k := 1) rfl w h⟩) (by rfl) (by omega) (by decide) rfl fun A103 c103 z103 => ?_) | refine GL.step (ot_append (k := 4) ei_24 rfl rfl rfl (by rfl) (fun w h => .inr ⟨_, _, rfl, Hd.cellsAll (k := 1) rfl w h⟩) (by rfl) (by omega) (by decide) rfl fun A103 c103 z103 => ?_) | refine GL.step (ot_append (k := 5) ei_24 rfl rfl rfl (by rfl) (fun w h => .inr ⟨_, _, rfl, Hd.cellsAll (k := 1) rfl w h⟩) (by rfl) (by omega) (by decide) rfl fun A103 c103 z103 => ?_)
                refine GL.st (fun w h => h.drop 0) ?_
                refine GL.val (rv_assign rfl) rfl ?_
                refine GL.nil ?_
                refine GX.blk ?_
                refine GX.then ?_
                refine GC.reg ?_
                refine GL.val (rv_move rfl) rfl ?_
                refine GL.val (rv_add rfl rfl (by omega) (by omega)) rfl ?_
                refine GL.val (rv_assign rfl) rfl ?_
                refine GL.nil ?_
                have e1 := Bc.fl_ne (Bc.Ky (Bc.run (max (min most 1000) 0) (ol.take j)).1) key i (by simpa [Bc.Ky] using hi) (by simpa [Bc.Ky] using c6)
                have e2 := Bc.fl_ne (Bc.Ky (Bc.ge (Bc.run (max (min most 1000) 0) (ol.take j)).1 key)) key i (by simpa [Bc.Ky] using hi') (by simpa [Bc.Ky] using c7)
                simp only [Bc.Ky, List.getElem_map] at e1 e2
                exact GX.round (i + 1, (A90, c90), (A103, c103)) (by show _ - (i + 1) < _ - i; omega) (by show i + 1 ≤ _; omega) (by dsimp only [Bc.Ky]; rw [e1, e2]; (try simp only [List.length_append, List.length_cons, List.length_nil]); exact (by repeat (first | exact Sub.nil | refine Sub.cons rfl ?_))) (fun w h => by dsimp only [Bc.Ky]; rw [e1, e2]; simpa [Value.cells, Bc.Ky] using h)
              · refine GC.skip ?_
                refine GX.blk ?_
                refine GX.then ?_
                refine GC.reg ?_
                refine GL.val (rv_move rfl) rfl ?_
                refine GL.val (rv_add rfl rfl (by omega) (by omega)) rfl ?_
                refine GL.val (rv_assign rfl) rfl ?_
                refine GL.nil ?_
                have e1 := Bc.fl_ne (Bc.Ky (Bc.run (max (min most 1000) 0) (ol.take j)).1) key i (by simpa [Bc.Ky] using hi) (by simpa [Bc.Ky] using c6)
                have e2 := Bc.fl_eq (Bc.Ky (Bc.ge (Bc.run (max (min most 1000) 0) (ol.take j)).1 key)) key i (by simpa [Bc.Ky] using hi') (by simpa [Bc.Ky] using c7)
                simp only [Bc.Ky, List.getElem_map] at e1 e2
                exact GX.round (i + 1, (A90, c90), (A15, c15)) (by show _ - (i + 1) < _ - i; omega) (by show i + 1 ≤ _; omega) (by dsimp only [Bc.Ky]; rw [e1, e2]; (try simp only [List.length_append, List.length_cons, List.length_nil]); exact (by repeat (first | exact Sub.nil | refine Sub.cons rfl ?_))) (fun w h => by dsimp only [Bc.Ky]; rw [e1, e2]; simpa [Value.cells, Bc.Ky] using h)
            · refine GC.skip ?_
              refine GX.then ?_
              refine GC.seq ?_
              refine GC.reg ?_
              refine GL.val (rv_move rfl) rfl ?_
              refine GL.val (rv_move rfl) rfl ?_
              refine GL.val (rv_elem es_24 rfl rfl (by omega) (by omega)) rfl ?_
              refine GL.val (rv_load ag_9 rfl (Hd.rowCell (k := 3) (u := .string (Bc.ge (Bc.run (max (min most 1000) 0) (ol.take j)).1 key)[i].1) rfl (by simp [hi']))) rfl ?_
              refine GL.val (rv_move rfl) rfl ?_
              refine GL.val (rv_neS rfl rfl) rfl ?_
              refine GL.nil ?_
              refine GX.then ?_
              first | refine GC.condP rfl (fun c8 => ?_) (fun c8 => ?_) | refine GC.cond rfl (fun c8 => ?_) (fun c8 => ?_)
              · refine GC.reg ?_
                refine GL.val (rv_move rfl) rfl ?_
                refine GL.val (rv_move rfl) rfl ?_
                refine GL.val (rv_move rfl) rfl ?_
                refine GL.val (rv_elem es_24 rfl rfl (by omega) (by omega)) rfl ?_
                refine GL.val (rv_load ag_9 rfl (Hd.rowCell (k := 3) (u := .string (Bc.ge (Bc.run (max (min most 1000) 0) (ol.take j)).1 key)[i].1) rfl (by simp [hi']))) rfl ?_
                refine GL.step (ot_buildSlice ei_24 rfl rfl rfl rfl rfl rfl fun b102 => ?_)
                first | refine GL.step (ot_append (k := 1) ei_24 rfl rfl rfl (by rfl) (fun w h => .inr ⟨_, _, rfl, Hd.cellsAll (k := 0) rfl w h⟩) (by rfl) (by omega) (by decide) rfl fun A103 c103 z103 => ?_) | refine GL.step (ot_append (k := 2) ei_24 rfl rfl rfl (by rfl) (fun w h => .inr ⟨_, _, rfl, Hd.cellsAll (k := 0) rfl w h⟩) (by rfl) (by omega) (by decide) rfl fun A103 c103 z103 => ?_) | refine GL.step (ot_append (k := 3) ei_24 rfl rfl rfl (by rfl) (fun w h => .inr ⟨_, _, rfl, Hd.cellsAll (k := 0) rfl w h⟩) (by rfl) (by omega) (by decide) rfl fun A103 c103 z103 => ?_) | refine GL.step (ot_append (k := 4) ei_24 rfl rfl rfl (by rfl) (fun w h => .inr ⟨_, _, rfl, Hd.cellsAll (k := 0) rfl w h⟩) (by rfl) (by omega) (by decide) rfl fun A103 c103 z103 => ?_) | refine GL.step (ot_append (k := 5) ei_24 rfl rfl rfl (by rfl) (fun w h => .inr ⟨_, _, rfl, Hd.cellsAll (k := 0) rfl w h⟩) (by rfl) (by omega) (by decide) rfl fun A103 c103 z103 => ?_) | refine GL.step (ot_append (k := 0) ei_24 rfl rfl rfl (by rfl) (fun w h => .inr ⟨_, _, rfl, Hd.cellsAll (k := 1) rfl w h⟩) (by rfl) (by omega) (by decide) rfl fun A103 c103 z103 => ?_) | refine GL.step (ot_append (k := 2) ei_24 rfl rfl rfl (by rfl) (fun w h => .inr ⟨_, _, rfl, Hd.cellsAll (k := 1) rfl w h⟩) (by rfl) (by omega) (by decide) rfl fun A103 c103 z103 => ?_) | refine GL.step (ot_append (k := 3) ei_24 rfl rfl rfl (by rfl) (fun w h => .inr ⟨_, _, rfl, Hd.cellsAll (k := 1) rfl w h⟩) (by rfl) (by omega) (by decide) rfl fun A103 c103 z103 => ?_) | refine GL.step (ot_append (k := 4) ei_24 rfl rfl rfl (by rfl) (fun w h => .inr ⟨_, _, rfl, Hd.cellsAll (k := 1) rfl w h⟩) (by rfl) (by omega) (by decide) rfl fun A103 c103 z103 => ?_) | refine GL.step (ot_append (k := 5) ei_24 rfl rfl rfl (by rfl) (fun w h => .inr ⟨_, _, rfl, Hd.cellsAll (k := 1) rfl w h⟩) (by rfl) (by omega) (by decide) rfl fun A103 c103 z103 => ?_)
                refine GL.st (fun w h => h.drop 0) ?_
                refine GL.val (rv_assign rfl) rfl ?_
                refine GL.nil ?_
                refine GX.blk ?_
                refine GX.then ?_
                refine GC.reg ?_
                refine GL.val (rv_move rfl) rfl ?_
                refine GL.val (rv_add rfl rfl (by omega) (by omega)) rfl ?_
                refine GL.val (rv_assign rfl) rfl ?_
                refine GL.nil ?_
                have e1 := Bc.fl_eq (Bc.Ky (Bc.run (max (min most 1000) 0) (ol.take j)).1) key i (by simpa [Bc.Ky] using hi) (by simpa [Bc.Ky] using c6)
                have e2 := Bc.fl_ne (Bc.Ky (Bc.ge (Bc.run (max (min most 1000) 0) (ol.take j)).1 key)) key i (by simpa [Bc.Ky] using hi') (by simpa [Bc.Ky] using c8)
                simp only [Bc.Ky, List.getElem_map] at e1 e2
                exact GX.round (i + 1, (A14, c14), (A103, c103)) (by show _ - (i + 1) < _ - i; omega) (by show i + 1 ≤ _; omega) (by dsimp only [Bc.Ky]; rw [e1, e2]; (try simp only [List.length_append, List.length_cons, List.length_nil]); exact (by repeat (first | exact Sub.nil | refine Sub.cons rfl ?_))) (fun w h => by dsimp only [Bc.Ky]; rw [e1, e2]; simpa [Value.cells, Bc.Ky] using h)
              · refine GC.skip ?_
                refine GX.blk ?_
                refine GX.then ?_
                refine GC.reg ?_
                refine GL.val (rv_move rfl) rfl ?_
                refine GL.val (rv_add rfl rfl (by omega) (by omega)) rfl ?_
                refine GL.val (rv_assign rfl) rfl ?_
                refine GL.nil ?_
                have e1 := Bc.fl_eq (Bc.Ky (Bc.run (max (min most 1000) 0) (ol.take j)).1) key i (by simpa [Bc.Ky] using hi) (by simpa [Bc.Ky] using c6)
                have e2 := Bc.fl_eq (Bc.Ky (Bc.ge (Bc.run (max (min most 1000) 0) (ol.take j)).1 key)) key i (by simpa [Bc.Ky] using hi') (by simpa [Bc.Ky] using c8)
                simp only [Bc.Ky, List.getElem_map] at e1 e2
                exact GX.round (i + 1, (A14, c14), (A15, c15)) (by show _ - (i + 1) < _ - i; omega) (by show i + 1 ≤ _; omega) (by dsimp only [Bc.Ky]; rw [e1, e2]; (try simp only [List.length_append, List.length_cons, List.length_nil]); exact (by repeat (first | exact Sub.nil | refine Sub.cons rfl ?_))) (fun w h => by dsimp only [Bc.Ky]; rw [e1, e2]; exact h)
          · have ei : i = (Bc.run (max (min most 1000) 0) (ol.take j)).1.length := by omega
            have hsame : (Bc.fl (Bc.Ky (Bc.run (max (min most 1000) 0) (ol.take j)).1) key i) = (Bc.fl (Bc.Ky (Bc.ge (Bc.run (max (min most 1000) 0) (ol.take j)).1 key)) key i) := by rw [Bc.fl_all _ _ _ ei, Bc.fl_all _ _ _ (ei.trans hgl.symm), Bc.wo_ge]
            have hlen : Bc.hs (Bc.run (max (min most 1000) 0) (ol.take j)).1 key = decide ((((Bc.fl (Bc.Ky (Bc.run (max (min most 1000) 0) (ol.take j)).1) key i)).length : Int) < ((Bc.run (max (min most 1000) 0) (ol.take j)).1.length : Int)) := by rw [Bc.fl_all _ _ _ ei]; exact Bc.hs_len _ _ hI.nd
            refine GC.exit ?_
            refine GX.then_exit ?_
            refine GX.then_exit ?_
            refine GX.blk_eq ?_
            refine GX.then ?_
            refine GC.seq ?_
            refine GC.reg ?_
            refine GL.val (rv_move rfl) rfl ?_
            refine GL.val (rv_move rfl) rfl ?_
            refine GL.step (ot_call hb_14 rfl (callOk fun w hh => same_t A14 A15 c14 c15 _ _ (Bc.fl (Bc.Ky (Bc.run (max (min most 1000) 0) (ol.take j)).1) key i) (Bc.fl (Bc.Ky (Bc.ge (Bc.run (max (min most 1000) 0) (ol.take j)).1 key)) key i) w (hh.rowR (k := 0) rfl) (hh.rowR (k := 1) rfl) rfl rfl (by have := Bc.fl_len (Bc.Ky (Bc.run (max (min most 1000) 0) (ol.take j)).1) key i; simp only [Bc.Ky, List.length_map] at this ⊢; omega) hsame) rfl fun _ _ => ?_)
            refine GL.val (rv_move rfl) rfl ?_
            first | refine GL.skipG rfl rfl ?_ | refine GL.skipU rfl rfl ?_ | refine GL.valT rfl (rv_move rfl) rfl ?_ | refine GL.valG rfl (fun hb => rv_move (by first | exact evb rfl hb | rfl)) rfl ?_
            first | refine GL.skipG rfl rfl ?_ | refine GL.skipU rfl rfl ?_ | refine GL.valT rfl (rv_move rfl) rfl ?_ | refine GL.valG rfl (fun hb => rv_move (by first | exact evb rfl hb | rfl)) rfl ?_
            first | refine GL.skipG rfl rfl ?_ | refine GL.skipU rfl rfl ?_ | refine GL.valT rfl (rv_lenSl Try.underlying24 rfl) rfl ?_ | refine GL.valG rfl (fun hb => rv_lenSl Try.underlying24 (by first | exact evb rfl hb | rfl)) rfl ?_
            first | refine GL.skipG rfl rfl ?_ | refine GL.skipU rfl rfl ?_ | refine GL.valT rfl (rv_move rfl) rfl ?_ | refine GL.valG rfl (fun hb => rv_move (by first | exact evb rfl hb | rfl)) rfl ?_
            first | refine GL.skipG rfl rfl ?_ | refine GL.skipU rfl rfl ?_ | refine GL.valT rfl (rv_lenSl Try.underlying24 rfl) rfl ?_ | refine GL.valG rfl (fun hb => rv_lenSl Try.underlying24 (by first | exact evb rfl hb | rfl)) rfl ?_
            first | refine GL.skipG rfl rfl ?_ | refine GL.skipU rfl rfl ?_ | refine GL.valT rfl (rv_lss rfl rfl) rfl ?_ | refine GL.valG rfl (fun hb => rv_lss (by first | exact evb rfl hb | rfl) (by first | exact evb rfl hb | rfl)) rfl ?_
            first | refine GL.skipG rfl rfl ?_ | refine GL.skipU rfl rfl ?_ | refine GL.valT rfl (rv_to (v' := .bool true) (rv_eqB rfl rfl (run_eqBool Try.underlying4)) (by rw [← hlen]; simp)) rfl ?_ | refine GL.valG rfl (fun hb => rv_to (v' := .bool true) (rv_eqB (by first | exact evb rfl hb | rfl) (by first | exact evb rfl hb | rfl) (run_eqBool Try.underlying4)) (by rw [← hlen]; simp)) rfl ?_
            refine GL.val ((by first | exact rv_andT rfl rfl rfl | exact rv_andF rfl rfl rfl | exact rv_pickAnd rfl rfl rfl)) rfl ?_
            refine GL.val (rv_move rfl) rfl ?_
            first | refine GL.skipG rfl rfl ?_ | refine GL.skipU rfl rfl ?_ | refine GL.stepG rfl (ot_call hb_10 rfl (callOk fun w hh => works_c w) rfl fun _ _ => ?_)
            refine GL.val ((by first | exact rv_andT rfl rfl rfl | exact rv_andF rfl rfl rfl | exact rv_pickAnd rfl rfl rfl)) rfl ?_
            refine GL.val (rv_assign rfl) rfl ?_
            refine GL.nil ?_
            refine GX.then ?_
            refine GC.ret ?_
            refine GX.ret1 rfl (RR.tmp rfl) ?_
            exact fun w1 h1 => ⟨(), rfl, h1.take 0, trivial⟩
end Go.Proofs.Ytjbnblkefhpibaa
