import Derived.Test.YtjbnblkefhpibaaF
set_option linter.unusedVariables false
set_option linter.unusedSimpArgs false
namespace Go.Proofs.Ytjbnblkefhpibaa
open Go Go.RowKit Go.Bz
theorem ag_35 : aggB Try.prog 35 = some true := by kernel_rfl
theorem es_22 : elemSz Try.prog 22 = some 3 := by kernel_rfl
theorem hb_10 : hasBody Try.prog 10 = true := by kernel_rfl
theorem hb_11 : hasBody Try.prog 11 = true := by kernel_rfl
theorem hb_8 : hasBody Try.prog 8 = true := by kernel_rfl
theorem hb_9 : hasBody Try.prog 9 = true := by kernel_rfl
theorem sz_35 : (Try.prog.info? 35).map (·.size) = some 3 := by kernel_rfl

/-- the cells of acts -/
def opc (ol : List Bc.Op) : List Value := ol.flatMap fun o => [.int .i64 o.1, .string o.2.1, .int .i64 o.2.2]
theorem opc_len (ol : List Bc.Op) : (opc ol).length = ol.length * 3 := by
  induction ol with
  | nil => rfl
  | cons o ol ih => simp only [opc, List.flatMap_cons, List.length_append, List.length_cons, List.length_nil] at *; omega
theorem opc_get : ∀ (ol : List Bc.Op) (j : Nat) (h : j < ol.length) (i : Nat), i < 3 → (opc ol)[j * 3 + i]? = [Value.int .i64 ol[j].1, .string ol[j].2.1, .int .i64 ol[j].2.2][i]?
  | o :: ol, 0, h, i, hi => by
    show ([Value.int .i64 o.1, .string o.2.1, .int .i64 o.2.2] ++ opc ol)[0 * 3 + i]? = _
    rw [List.getElem?_append_left (by simp; omega)]; simp
  | o :: ol, j + 1, h, i, hi => by
    show ([Value.int .i64 o.1, .string o.2.1, .int .i64 o.2.2] ++ opc ol)[(j + 1) * 3 + i]? = _
    rw [List.getElem?_append_right (by simp; omega), show (j + 1) * 3 + i - [Value.int .i64 o.1, .string o.2.1, .int .i64 o.2.2].length = j * 3 + i by simp; omega]
    rw [opc_get ol j (by simpa using h) i hi]; simp
theorem op0 {w : World} {b o j : Nat} {ol : List Bc.Op} (hC : Cells w b o (opc ol)) (h : j < ol.length) : w.cell? ⟨b, o + j * 3 + 0, none⟩ = some (.int .i64 ol[j].1) := hC (j * 3 + 0) _ (opc_get ol j h 0 (by omega))
theorem op1 {w : World} {b o j : Nat} {ol : List Bc.Op} (hC : Cells w b o (opc ol)) (h : j < ol.length) : w.cell? ⟨b, o + j * 3 + 1, none⟩ = some (.string ol[j].2.1) := hC (j * 3 + 1) _ (opc_get ol j h 1 (by omega))
theorem op2 {w : World} {b o j : Nat} {ol : List Bc.Op} (hC : Cells w b o (opc ol)) (h : j < ol.length) : w.cell? ⟨b, o + j * 3 + 2, none⟩ = some (.int .i64 ol[j].2.2) := hC (j * 3 + 2) _ (opc_get ol j h 2 (by omega))
theorem opC {w : World} {b o j : Nat} {ol : List Bc.Op} (hC : Cells w b o (opc ol)) (h : j < ol.length) : Cells w b (o + j * 3) [.int .i64 ol[j].1, .string ol[j].2.1, .int .i64 ol[j].2.2] := fun i u hu => by
  have hi : i < 3 := by have := (List.getElem?_eq_some_iff.1 hu).1; simpa using this
  rw [Nat.add_assoc]; exact hC (j * 3 + i) u (by rw [opc_get ol j h i hi]; exact hu)
theorem St.roNil {K : Nat → Prop} {w0 w : World} {Fs : List Pc} (h : St K w0 w Fs) : St K w0 w (roP none [] :: Fs) := (h.nilRow 3 1).rowRo (k := 0) rfl
theorem roHead {A : Option Addr} {ol : List Bc.Op} {w : World} (hR : SlR w A (opc ol)) : ol.length = 0 ∨ ∃ b o, A = some ⟨b, o, none⟩ ∧ Cells w b o (opc ol) := hR.imp (fun h => by have := congrArg List.length h; rw [opc_len] at this; simp only [List.length_nil] at this; omega) id

set_option maxRecDepth 100000 in
set_option maxHeartbeats 1000000 in
theorem last_law (most : Int) (A : Option Addr) (n c : Nat) (ol : List Bc.Op) (key : ByteArray) (w : World) (hR : SlR w A (opc ol)) (hl : ol.length = n) :
    Calls Try.prog 3 [.int .i64 most, .slice A n c, .string key].toArray w fun e w' => ∃ _g : Unit, e = .returned (.bool true) ∧ St noB w w' [] ∧ True := by
  refine GC.calls Try.func3 rfl rfl (St.begin _) ?_
  have HA := roHead hR
  subst hl
  refine GC.seq ?_
  refine GC.reg ?_
  refine GL.val (rv_assign rfl) rfl ?_
  refine GL.nil ?_
  refine GX.then ?_
  refine GC.seq ?_
  refine GC.reg ?_
  refine GL.val (rv_move rfl) rfl ?_
  refine GL.step (ot_call hb_8 rfl (callOk fun w hh => start_c most w) rfl fun p _ => ?_)
  refine GL.val (rv_move rfl) rfl ?_
  refine GL.val (rv_extract rfl rfl) rfl ?_
  refine GL.val (rv_extract rfl rfl) rfl ?_
  refine GL.step (ot_alloc (zs := [.int .i64 0, .slice none 0 0, .slice none 0 0, .int .i64 0, .int .i64 0]) zb_27 rfl rfl fun b8 => ?_)
  refine GL.val (rv_assign rfl) rfl ?_
  first | refine GL.step (ot_store (k := 0) rfl rfl rfl rfl sz_27 rfl rfl (by first | ((simp only [repl, List.set_cons_zero, List.set_cons_succ]) <;> rfl) | rfl) ?_) | refine GL.step (ot_store (k := 1) rfl rfl rfl rfl sz_27 rfl rfl (by first | ((simp only [repl, List.set_cons_zero, List.set_cons_succ]) <;> rfl) | rfl) ?_)
  refine GL.nil ?_
  refine GX.then ?_
  refine GC.seq ?_
  refine GC.seq ?_
  refine GC.reg ?_
  refine GL.val (rv_move rfl) rfl ?_
  refine GL.val (rv_ptrNil rfl rfl Try.underlying23) rfl ?_
  refine GL.nil ?_
  refine GX.then ?_
  first | refine GC.condP rfl (fun c1 => ?_) (fun c1 => ?_) | refine GC.cond rfl (fun c1 => ?_) (fun c1 => ?_)
  · exact absurd c1 (by simp)
  · refine GC.skip ?_
    refine GX.then ?_
    refine GC.seq ?_
    refine GC.seq ?_
    refine GC.reg ?_
    refine GL.val (rv_move rfl) rfl ?_
    refine GL.step (ot_call hb_9 rfl (callOk fun w hh => few_c A _ c w) rfl fun _ _ => ?_)
    refine GL.val (rv_not rfl) rfl ?_
    refine GL.nil ?_
    refine GX.then ?_
    first | refine GC.condP rfl (fun c2 => ?_) (fun c2 => ?_) | refine GC.cond rfl (fun c2 => ?_) (fun c2 => ?_)
    · have c2 : ¬ ol.length ≤ 200 := by simpa using c2
      refine GC.seq ?_
      refine GC.reg ?_
      refine GL.step (ot_call hb_10 rfl (callOk fun w hh => works_c w) rfl fun _ _ => ?_)
      refine GL.val (rv_assign rfl) rfl ?_
      refine GL.nil ?_
      refine GX.then ?_
      refine GC.ret ?_
      refine GX.then_ret ?_
      refine GX.ret1 rfl (RR.tmp rfl) ?_
      exact fun w1 h1 => ⟨(), rfl, h1.take 0, trivial⟩
    · have c2 : ol.length ≤ 200 := by simpa using c2
      refine GC.skip ?_
      refine GX.then ?_
      refine GC.seq ?_
      refine GC.reg ?_
      refine GL.val (rv_assign rfl) rfl ?_
      refine GL.val (rv_assign rfl) rfl ?_
      refine GL.nil ?_
      refine GX.then ?_
      refine GC.seq ?_
      refine GC.seq ?_
      refine GC.reg ?_
      refine GL.val (rv_assign rfl) rfl ?_
      refine GL.nil ?_
      refine GX.then ?_
      refine GC.block ?_
      refine GC.loop (γ := Nat × (Option Addr × Nat) × (Option Addr × Nat)) (fun g => [(1, .slice A ol.length c), (2, .string key), (7, .pointer (some ⟨p, 0, none⟩)), (8, .pointer (some ⟨b8, 0, none⟩)), (9, .int .i64 (Bc.lasts key (ol.take g.1)).1), (10, .bool (Bc.lasts key (ol.take g.1)).2), (11, .int .i64 (g.1 : Int))]) (fun g => [.cl b8 [.int .i64 (max (min most 1000) 0), .slice g.2.1.1 (Bc.run (max (min most 1000) 0) (ol.take g.1)).1.length g.2.1.2, .slice g.2.2.1 (Bc.run (max (min most 1000) 0) (ol.take g.1)).1.length g.2.2.2, .int .i64 (Bc.run (max (min most 1000) 0) (ol.take g.1)).2.1, .int .i64 (Bc.run (max (min most 1000) 0) (ol.take g.1)).2.2] 27, CcP p (max (min most 1000) 0) (Bc.run (max (min most 1000) 0) (ol.take g.1)).1 (Bc.run (max (min most 1000) 0) (ol.take g.1)).2.1 (Bc.run (max (min most 1000) 0) (ol.take g.1)).2.2, roP g.2.1.1 ((Bc.run (max (min most 1000) 0) (ol.take g.1)).1.map fun q => .string q.1), roP g.2.2.1 ((Bc.run (max (min most 1000) 0) (ol.take g.1)).1.map fun q => .int .i64 q.2)]) (fun g => g.1 ≤ ol.length) (fun g => ol.length - g.1) ((0, (none, 0), (none, 0))) (Nat.zero_le _) (by repeat (first | exact Sub.nil | refine Sub.cons rfl ?_)) (fun w h => (((St.roNil (St.roNil h)).pull (k := 2) rfl).pull (k := 3) rfl).pull (k := 1) rfl) (fun ⟨j, ⟨A9, c9⟩, ⟨B9, d9⟩⟩ hj => ?_)
      dsimp only at hj ⊢
      refine GC.seq ?_
      refine GC.seq ?_
      refine GC.reg ?_
      refine GL.val (rv_move rfl) rfl ?_
      refine GL.val (rv_move rfl) rfl ?_
      refine GL.val (rv_lenSl Try.underlying22 rfl) rfl ?_
      refine GL.val (rv_lss rfl rfl) rfl ?_
      refine GL.nil ?_
      refine GX.then ?_
      first | refine GC.condP rfl (fun c3 => ?_) (fun c3 => ?_) | refine GC.cond rfl (fun c3 => ?_) (fun c3 => ?_)
      · have hlt : j < ol.length := by omega
        obtain ⟨b, o, rfl, hC⟩ := HA.resolve_left (by omega)
        have hI := Bc.Inv.run (m := (max (min most 1000) 0)) (by omega) ol j (by omega)
        refine GC.skip ?_
        refine GX.then ?_
        refine GC.seq ?_
        refine GC.block ?_
        refine GC.seq ?_
        refine GC.st (fun w h => St.grp (Gs := [_, _, _]) (((h.pull (k := 3) rfl).pull (k := 3) rfl).pull (k := 3) rfl)) ?_
        refine GC.draw 10 [1] mo_ ?_
        refine GD.pure (i := 0) rfl (fun _ _ => rv_move rfl) (by kernel_rfl) (by repeat (first | exact noPanicPut_body | exact noPanicPut_cut | exact noPanicPut_cutE | refine noPanicPut_then ?_ | refine noPanicPut_blk ?_)) ?_
        refine GD.pure (i := 2) rfl (fun _ _ => rv_move rfl) (by kernel_rfl) (by repeat (first | exact noPanicPut_body | exact noPanicPut_cut | exact noPanicPut_cutE | refine noPanicPut_then ?_ | refine noPanicPut_blk ?_)) ?_
        refine GD.pure (i := 3) rfl (fun _ _ => rv_move rfl) (by kernel_rfl) (by repeat (first | exact noPanicPut_body | exact noPanicPut_cut | exact noPanicPut_cutE | refine noPanicPut_then ?_ | refine noPanicPut_blk ?_)) ?_
        refine GD.pure (i := 4) rfl (fun _ _ => rv_elem es_22 rfl rfl (by omega) (by omega)) (by kernel_rfl) (by repeat (first | exact noPanicPut_body | exact noPanicPut_cut | exact noPanicPut_cutE | refine noPanicPut_then ?_ | refine noPanicPut_blk ?_)) ?_
        refine GD.read (i := 1) rfl (rv_loadA ag_27 rfl (by first | exact Hd.cellsAll (k := 0) rfl | exact Hd.cells0 (by assumption) (by first | exact fun h => h | assumption)) (by exact sz_27)) (by kernel_rfl) (by repeat (first | exact noPanicPut_body | exact noPanicPut_cut | exact noPanicPut_cutE | refine noPanicPut_then ?_ | refine noPanicPut_blk ?_)) ?_
        refine GD.read (i := 5) rfl (rv_loadA ag_35 rfl (Hd.cells0 (opC hC hlt) (fun h => h)) (by exact sz_35)) (by kernel_rfl) (by repeat (first | exact noPanicPut_body | exact noPanicPut_cut | exact noPanicPut_cutE | refine noPanicPut_then ?_ | refine noPanicPut_blk ?_)) ?_
        refine GD.step (i := 6) (by kernel_rfl) rfl (ot_call hb_11 rfl (callOkM (k := 0) rfl fun w S _ hA hb => step_c p j (max (min most 1000) 0) (Bc.run (max (min most 1000) 0) (ol.take j)).2.1 (Bc.run (max (min most 1000) 0) (ol.take j)).2.2 ol[j].1 ol[j].2.2 ol[j].2.1 A9 B9 c9 d9 (Bc.run (max (min most 1000) 0) (ol.take j)).1 w S hA hb hI (by omega)) rfl fun g38 _ => ⟨.inr fun _ h => h.pk [3], ?_⟩)
        obtain ⟨⟨A38, c38⟩, ⟨B38, d38⟩⟩ := g38
        refine GD.pure (i := 7) rfl (fun _ _ => rv_move rfl) (by kernel_rfl) (by repeat (first | exact noPanicPut_body | exact noPanicPut_cut | exact noPanicPut_cutE | refine noPanicPut_then ?_ | refine noPanicPut_blk ?_)) ?_
        refine GD.pure (i := 8) rfl (fun _ _ => rv_extract rfl rfl) (by kernel_rfl) (by repeat (first | exact noPanicPut_body | exact noPanicPut_cut | exact noPanicPut_cutE | refine noPanicPut_then ?_ | refine noPanicPut_blk ?_)) ?_
        refine GD.pure (i := 9) rfl (fun _ _ => rv_extract rfl rfl) (by kernel_rfl) (by repeat (first | exact noPanicPut_body | exact noPanicPut_cut | exact noPanicPut_cutE | refine noPanicPut_then ?_ | refine noPanicPut_blk ?_)) ?_
        first | refine GD.step (i := 10) (by kernel_rfl) rfl (ot_store (k := 0) rfl rfl rfl rfl sz_27 rfl rfl (by first | ((simp only [repl, List.set_cons_zero, List.set_cons_succ]) <;> rfl) | rfl) ⟨.inl rfl, ?_⟩) | refine GD.step (i := 10) (by kernel_rfl) rfl (ot_store (k := 1) rfl rfl rfl rfl sz_27 rfl rfl (by first | ((simp only [repl, List.set_cons_zero, List.set_cons_succ]) <;> rfl) | rfl) ⟨.inl rfl, ?_⟩) | refine GD.step (i := 10) (by kernel_rfl) rfl (ot_store (k := 2) rfl rfl rfl rfl sz_27 rfl rfl (by first | ((simp only [repl, List.set_cons_zero, List.set_cons_succ]) <;> rfl) | rfl) ⟨.inl rfl, ?_⟩) | refine GD.step (i := 10) (by kernel_rfl) rfl (ot_store (k := 3) rfl rfl rfl rfl sz_27 rfl rfl (by first | ((simp only [repl, List.set_cons_zero, List.set_cons_succ]) <;> rfl) | rfl) ⟨.inl rfl, ?_⟩)
        refine GD.done (by kernel_rfl) ?_
        refine GX.then ?_
        refine GC.seq ?_
        refine GC.seq ?_
        refine GC.reg ?_
        refine GL.val (rv_move rfl) rfl ?_
        refine GL.val (rv_move rfl) rfl ?_
        refine GL.val (rv_elem es_22 rfl rfl (by omega) (by omega)) rfl ?_
        refine GL.val (rv_field fo_35_1 rfl rfl) rfl ?_
        refine GL.val (rv_load ag_9 rfl (Hd.cell0 (op1 hC hlt) (fun h => h))) rfl ?_
        refine GL.val (rv_move rfl) rfl ?_
        refine GL.val (rv_eqS rfl rfl) rfl ?_
        refine GL.val (rv_move rfl) rfl ?_
        first | refine GL.skipG rfl rfl ?_ | refine GL.skipU rfl rfl ?_ | refine GL.valT rfl (rv_move rfl) rfl ?_ | refine GL.valG rfl (fun hb => rv_move (by first | exact evb rfl hb | rfl)) rfl ?_
        first | refine GL.skipG rfl rfl ?_ | refine GL.skipU rfl rfl ?_ | refine GL.valT rfl (rv_move rfl) rfl ?_ | refine GL.valG rfl (fun hb => rv_move (by first | exact evb rfl hb | rfl)) rfl ?_
        first | refine GL.skipG rfl rfl ?_ | refine GL.skipU rfl rfl ?_ | refine GL.valT rfl (rv_elem es_22 rfl rfl (by omega) (by omega)) rfl ?_ | refine GL.valG rfl (fun hb => rv_elem es_22 (by first | exact evb rfl hb | rfl) (by first | exact evb rfl hb | rfl) (by omega) (by omega)) rfl ?_
        first | refine GL.skipG rfl rfl ?_ | refine GL.skipU rfl rfl ?_ | refine GL.valT rfl (rv_field fo_35_0 rfl rfl) rfl ?_ | refine GL.valG rfl (fun hb => rv_field fo_35_0 (by first | exact evb rfl hb | rfl) (by first | exact evb rfl hb | rfl)) rfl ?_
        first | refine GL.skipG rfl rfl ?_ | refine GL.skipU rfl rfl ?_ | refine GL.valT rfl (rv_load ag_3 rfl (Hd.cell0 (op0 hC hlt) (fun h => h))) rfl ?_ | refine GL.valG rfl (fun hb => rv_load ag_3 (by first | exact evb rfl hb | rfl) (Hd.cell0 (op0 hC hlt) (fun h => h))) rfl ?_
        first | refine GL.skipG rfl rfl ?_ | refine GL.skipU rfl rfl ?_ | refine GL.valT rfl (rv_eqI rfl rfl) rfl ?_ | refine GL.valG rfl (fun hb => rv_eqI (by first | exact evb rfl hb | rfl) (by first | exact evb rfl hb | rfl)) rfl ?_
        refine GL.val ((by first | exact rv_andT rfl rfl rfl | exact rv_andF rfl rfl rfl | exact rv_pickAnd rfl rfl rfl)) rfl ?_
        refine GL.nil ?_
        refine GX.then ?_
        first | refine GC.condP rfl (fun c4 => ?_) (fun c4 => ?_) | refine GC.cond rfl (fun c4 => ?_) (fun c4 => ?_)
        · have c4 : ol[j].2.1 = key ∧ ol[j].1 = 1 := by simpa using c4
          refine GC.reg ?_
          refine GL.val (rv_move rfl) rfl ?_
          refine GL.val (rv_move rfl) rfl ?_
          refine GL.val (rv_elem es_22 rfl rfl (by omega) (by omega)) rfl ?_
          refine GL.val (rv_field fo_35_2 rfl rfl) rfl ?_
          refine GL.val (rv_load ag_3 rfl (Hd.cell0 (op2 hC hlt) (fun h => h))) rfl ?_
          refine GL.val (rv_assign rfl) rfl ?_
          refine GL.val (rv_assign rfl) rfl ?_
          refine GL.nil ?_
          refine GX.then ?_
          refine GC.seq ?_
          refine GC.reg ?_
          refine GL.val (rv_move rfl) rfl ?_
          refine GL.val (rv_move rfl) rfl ?_
          refine GL.val (rv_elem es_22 rfl rfl (by omega) (by omega)) rfl ?_
          refine GL.val (rv_field fo_35_1 rfl rfl) rfl ?_
          refine GL.val (rv_load ag_9 rfl (Hd.cell0 (op1 hC hlt) (fun h => h))) rfl ?_
          refine GL.val (rv_move rfl) rfl ?_
          refine GL.val (rv_eqS rfl rfl) rfl ?_
          refine GL.val (rv_move rfl) rfl ?_
          first | refine GL.skipG rfl rfl ?_ | refine GL.skipU rfl rfl ?_ | refine GL.valT rfl (rv_move rfl) rfl ?_ | refine GL.valG rfl (fun hb => rv_move (by first | exact evb rfl hb | rfl)) rfl ?_
          first | refine GL.skipG rfl rfl ?_ | refine GL.skipU rfl rfl ?_ | refine GL.valT rfl (rv_move rfl) rfl ?_ | refine GL.valG rfl (fun hb => rv_move (by first | exact evb rfl hb | rfl)) rfl ?_
          first | refine GL.skipG rfl rfl ?_ | refine GL.skipU rfl rfl ?_ | refine GL.valT rfl (rv_elem es_22 rfl rfl (by omega) (by omega)) rfl ?_ | refine GL.valG rfl (fun hb => rv_elem es_22 (by first | exact evb rfl hb | rfl) (by first | exact evb rfl hb | rfl) (by omega) (by omega)) rfl ?_
          first | refine GL.skipG rfl rfl ?_ | refine GL.skipU rfl rfl ?_ | refine GL.valT rfl (rv_field fo_35_0 rfl rfl) rfl ?_ | refine GL.valG rfl (fun hb => rv_field fo_35_0 (by first | exact evb rfl hb | rfl) (by first | exact evb rfl hb | rfl)) rfl ?_
          first | refine GL.skipG rfl rfl ?_ | refine GL.skipU rfl rfl ?_ | refine GL.valT rfl (rv_load ag_3 rfl (Hd.cell0 (op0 hC hlt) (fun h => h))) rfl ?_ | refine GL.valG rfl (fun hb => rv_load ag_3 (by first | exact evb rfl hb | rfl) (Hd.cell0 (op0 hC hlt) (fun h => h))) rfl ?_
          first | refine GL.skipG rfl rfl ?_ | refine GL.skipU rfl rfl ?_ | refine GL.valT rfl (rv_eqI rfl rfl) rfl ?_ | refine GL.valG rfl (fun hb => rv_eqI (by first | exact evb rfl hb | rfl) (by first | exact evb rfl hb | rfl)) rfl ?_
          refine GL.val ((by first | exact rv_andT rfl rfl rfl | exact rv_andF rfl rfl rfl | exact rv_pickAnd rfl rfl rfl)) rfl ?_
          refine GL.nil ?_
          refine GX.then ?_
          first | refine GC.condP rfl (fun c5 => ?_) (fun c5 => ?_) | refine GC.cond rfl (fun c5 => ?_) (fun c5 => ?_)
          · exact absurd (show ol[j].2.1 = key ∧ ol[j].1 = 2 by simpa using c5) (by omega)
          · refine GC.skip ?_
            refine GX.blk ?_
            refine GX.then ?_
            refine GC.reg ?_
            refine GL.val (rv_move rfl) rfl ?_
            refine GL.val (rv_add rfl rfl (by omega) (by omega)) rfl ?_
            refine GL.val (rv_assign rfl) rfl ?_
            refine GL.nil ?_
            have e := Bc.lasts_take key ol j hlt
            unfold Bc.las at e
            rw [if_pos c4] at e
            exact GX.round (j + 1, (A38, c38), (B38, d38)) (by show _ - (j + 1) < _ - j; omega) (by show j + 1 ≤ _; omega) (by dsimp only; rw [e]; exact (by repeat (first | exact Sub.nil | refine Sub.cons rfl ?_))) (fun w h => by dsimp only; rw [Bc.run_take (max (min most 1000) 0) ol j hlt]; exact h.pull (k := 3) rfl)
        · have c4 : ¬ (ol[j].2.1 = key ∧ ol[j].1 = 1) := by simpa using c4
          refine GC.skip ?_
          refine GX.then ?_
          refine GC.seq ?_
          refine GC.reg ?_
          refine GL.val (rv_move rfl) rfl ?_
          refine GL.val (rv_move rfl) rfl ?_
          refine GL.val (rv_elem es_22 rfl rfl (by omega) (by omega)) rfl ?_
          refine GL.val (rv_field fo_35_1 rfl rfl) rfl ?_
          refine GL.val (rv_load ag_9 rfl (Hd.cell0 (op1 hC hlt) (fun h => h))) rfl ?_
          refine GL.val (rv_move rfl) rfl ?_
          refine GL.val (rv_eqS rfl rfl) rfl ?_
          refine GL.val (rv_move rfl) rfl ?_
          first | refine GL.skipG rfl rfl ?_ | refine GL.skipU rfl rfl ?_ | refine GL.valT rfl (rv_move rfl) rfl ?_ | refine GL.valG rfl (fun hb => rv_move (by first | exact evb rfl hb | rfl)) rfl ?_
          first | refine GL.skipG rfl rfl ?_ | refine GL.skipU rfl rfl ?_ | refine GL.valT rfl (rv_move rfl) rfl ?_ | refine GL.valG rfl (fun hb => rv_move (by first | exact evb rfl hb | rfl)) rfl ?_
          first | refine GL.skipG rfl rfl ?_ | refine GL.skipU rfl rfl ?_ | refine GL.valT rfl (rv_elem es_22 rfl rfl (by omega) (by omega)) rfl ?_ | refine GL.valG rfl (fun hb => rv_elem es_22 (by first | exact evb rfl hb | rfl) (by first | exact evb rfl hb | rfl) (by omega) (by omega)) rfl ?_
          first | refine GL.skipG rfl rfl ?_ | refine GL.skipU rfl rfl ?_ | refine GL.valT rfl (rv_field fo_35_0 rfl rfl) rfl ?_ | refine GL.valG rfl (fun hb => rv_field fo_35_0 (by first | exact evb rfl hb | rfl) (by first | exact evb rfl hb | rfl)) rfl ?_
          first | refine GL.skipG rfl rfl ?_ | refine GL.skipU rfl rfl ?_ | refine GL.valT rfl (rv_load ag_3 rfl (Hd.cell0 (op0 hC hlt) (fun h => h))) rfl ?_ | refine GL.valG rfl (fun hb => rv_load ag_3 (by first | exact evb rfl hb | rfl) (Hd.cell0 (op0 hC hlt) (fun h => h))) rfl ?_
          first | refine GL.skipG rfl rfl ?_ | refine GL.skipU rfl rfl ?_ | refine GL.valT rfl (rv_eqI rfl rfl) rfl ?_ | refine GL.valG rfl (fun hb => rv_eqI (by first | exact evb rfl hb | rfl) (by first | exact evb rfl hb | rfl)) rfl ?_
          refine GL.val ((by first | exact rv_andT rfl rfl rfl | exact rv_andF rfl rfl rfl | exact rv_pickAnd rfl rfl rfl)) rfl ?_
          refine GL.nil ?_
          refine GX.then ?_
          first | refine GC.condP rfl (fun c6 => ?_) (fun c6 => ?_) | refine GC.cond rfl (fun c6 => ?_) (fun c6 => ?_)
          · have c6 : ol[j].2.1 = key ∧ ol[j].1 = 2 := by simpa using c6
            refine GC.reg ?_
            refine GL.val (rv_assign rfl) rfl ?_
            refine GL.nil ?_
            refine GX.blk ?_
            refine GX.then ?_
            refine GC.reg ?_
            refine GL.val (rv_move rfl) rfl ?_
            refine GL.val (rv_add rfl rfl (by omega) (by omega)) rfl ?_
            refine GL.val (rv_assign rfl) rfl ?_
            refine GL.nil ?_
            have e := Bc.lasts_take key ol j hlt
            unfold Bc.las at e
            rw [if_neg c4, if_pos c6] at e
            exact GX.round (j + 1, (A38, c38), (B38, d38)) (by show _ - (j + 1) < _ - j; omega) (by show j + 1 ≤ _; omega) (by dsimp only; rw [e]; exact (by repeat (first | exact Sub.nil | refine Sub.cons rfl ?_))) (fun w h => by dsimp only; rw [Bc.run_take (max (min most 1000) 0) ol j hlt]; exact h.pull (k := 3) rfl)
          · have c6 : ¬ (ol[j].2.1 = key ∧ ol[j].1 = 2) := by simpa using c6
            refine GC.skip ?_
            refine GX.blk ?_
            refine GX.then ?_
            refine GC.reg ?_
            refine GL.val (rv_move rfl) rfl ?_
            refine GL.val (rv_add rfl rfl (by omega) (by omega)) rfl ?_
            refine GL.val (rv_assign rfl) rfl ?_
            refine GL.nil ?_
            have e := Bc.lasts_take key ol j hlt
            unfold Bc.las at e
            rw [if_neg c4, if_neg c6] at e
            exact GX.round (j + 1, (A38, c38), (B38, d38)) (by show _ - (j + 1) < _ - j; omega) (by show j + 1 ≤ _; omega) (by dsimp only; rw [e]; exact (by repeat (first | exact Sub.nil | refine Sub.cons rfl ?_))) (fun w h => by dsimp only; rw [Bc.run_take (max (min most 1000) 0) ol j hlt]; exact h.pull (k := 3) rfl)
      · have hI := Bc.Inv.run (m := (max (min most 1000) 0)) (by omega) ol j hj
        refine GC.exit ?_
        refine GX.then_exit ?_
        refine GX.then_exit ?_
        refine GX.blk_eq ?_
        refine GX.then ?_
        refine GC.seq ?_
        refine GC.reg ?_
        refine GL.val (rv_move rfl) rfl ?_
        refine GL.val (rv_move rfl) rfl ?_
        refine GL.step (ot_call hb_12 rfl (callOkM (k := 1) rfl fun w S _ hA hb => get_u p (max (min most 1000) 0) (Bc.run (max (min most 1000) 0) (ol.take j)).2.1 (Bc.run (max (min most 1000) 0) (ol.take j)).2.2 key (Bc.run (max (min most 1000) 0) (ol.take j)).1 w S hA hb (by have := hI.len; omega) hI.h0 (by have := hI.h1; omega) hI.s0 (by have := hI.s1; omega) hI.nd) rfl fun _ _ => ?_)
        refine GL.val (rv_move rfl) rfl ?_
        refine GL.val (rv_extract rfl rfl) rfl ?_
        refine GL.val (rv_extract rfl rfl) rfl ?_
        refine GL.val (rv_assign rfl) rfl ?_
        refine GL.val (rv_assign rfl) rfl ?_
        refine GL.nil ?_
        refine GX.then ?_
        refine GC.seq ?_
        refine GC.cutr ([(6, .bool true)]) ([]) ?_ ?_
        · rcases Bool.eq_false_or_eq_true (Bc.hs (Bc.run (max (min most 1000) 0) (ol.take j)).1 key) with hk | hk
          · obtain ⟨h2, h3⟩ := Bc.las_run (max (min most 1000) 0) key ol j hj hk
            simp only [hk, h2, h3]
            refine GC.reg ?_
            refine GL.val (rv_move rfl) rfl ?_
            refine GL.val (rv_not rfl) rfl ?_
            refine GL.val (rv_move rfl) rfl ?_
            first | refine GL.skipG rfl rfl ?_ | refine GL.skipU rfl rfl ?_ | refine GL.valT rfl (rv_move rfl) rfl ?_ | refine GL.valG rfl (fun hb => rv_move (by first | exact evb rfl hb | rfl)) rfl ?_
            first | refine GL.skipG rfl rfl ?_ | refine GL.skipU rfl rfl ?_ | refine GL.valT rfl (rv_move rfl) rfl ?_ | refine GL.valG rfl (fun hb => rv_move (by first | exact evb rfl hb | rfl)) rfl ?_
            first | refine GL.skipG rfl rfl ?_ | refine GL.skipU rfl rfl ?_ | refine GL.valT rfl (rv_move rfl) rfl ?_ | refine GL.valG rfl (fun hb => rv_move (by first | exact evb rfl hb | rfl)) rfl ?_
            first | refine GL.skipG rfl rfl ?_ | refine GL.skipU rfl rfl ?_ | refine GL.valT rfl (rv_move rfl) rfl ?_ | refine GL.valG rfl (fun hb => rv_move (by first | exact evb rfl hb | rfl)) rfl ?_
            first | refine GL.skipG rfl rfl ?_ | refine GL.skipU rfl rfl ?_ | refine GL.valT rfl (rv_to (v' := .bool true) (rv_eqI rfl rfl) (by simp)) rfl ?_ | refine GL.valG rfl (fun hb => rv_to (v' := .bool true) (rv_eqI (by first | exact evb rfl hb | rfl) (by first | exact evb rfl hb | rfl)) (by simp)) rfl ?_
            first | refine GL.skipG rfl rfl ?_ | refine GL.skipU rfl rfl ?_ | refine GL.valT rfl ((by first | exact rv_andT rfl rfl rfl | exact rv_andF rfl rfl rfl | exact rv_pickAnd rfl rfl rfl)) rfl ?_ | refine GL.valG rfl (fun hb => (by first | exact rv_andT (by first | exact evb rfl hb | rfl) (by first | exact evb rfl hb | rfl) (by first | exact evb rfl hb | rfl) | exact rv_andF (by first | exact evb rfl hb | rfl) (by first | exact evb rfl hb | rfl) (by first | exact evb rfl hb | rfl) | exact rv_pickAnd (by first | exact evb rfl hb | rfl) (by first | exact evb rfl hb | rfl) (by first | exact evb rfl hb | rfl))) rfl ?_
            refine GL.val ((by first | exact rv_orF rfl rfl rfl | exact rv_orT rfl rfl rfl | exact rv_pickOr rfl rfl rfl)) rfl ?_
            refine GL.val (rv_move rfl) rfl ?_
            first | refine GL.skipG rfl rfl ?_ | refine GL.skipU rfl rfl ?_ | refine GL.stepG rfl (ot_call hb_10 rfl (callOk fun w hh => works_c w) rfl fun _ _ => ?_)
            refine GL.val ((by first | exact rv_andT rfl rfl rfl | exact rv_andF rfl rfl rfl | exact rv_pickAnd rfl rfl rfl)) rfl ?_
            refine GL.val (rv_assign rfl) rfl ?_
            refine GL.nil ?_
            exact GX.cut (by repeat (first | exact Sub.nil | refine Sub.cons rfl ?_)) (fun w h => h.take 0)
          · simp only [hk]
            refine GC.reg ?_
            refine GL.val (rv_move rfl) rfl ?_
            refine GL.val (rv_not rfl) rfl ?_
            refine GL.val (rv_move rfl) rfl ?_
            first | refine GL.skipG rfl rfl ?_ | refine GL.skipU rfl rfl ?_ | refine GL.valT rfl (rv_move rfl) rfl ?_ | refine GL.valG rfl (fun hb => rv_move (by first | exact evb rfl hb | rfl)) rfl ?_
            first | refine GL.skipG rfl rfl ?_ | refine GL.skipU rfl rfl ?_ | refine GL.valT rfl (rv_move rfl) rfl ?_ | refine GL.valG rfl (fun hb => rv_move (by first | exact evb rfl hb | rfl)) rfl ?_
            first | refine GL.skipG rfl rfl ?_ | refine GL.skipU rfl rfl ?_ | refine GL.valT rfl (rv_move rfl) rfl ?_ | refine GL.valG rfl (fun hb => rv_move (by first | exact evb rfl hb | rfl)) rfl ?_
            first | refine GL.skipG rfl rfl ?_ | refine GL.skipU rfl rfl ?_ | refine GL.valT rfl (rv_move rfl) rfl ?_ | refine GL.valG rfl (fun hb => rv_move (by first | exact evb rfl hb | rfl)) rfl ?_
            first | refine GL.skipG rfl rfl ?_ | refine GL.skipU rfl rfl ?_ | refine GL.valT rfl (rv_to (v' := .bool true) (rv_eqI rfl rfl) (by simp)) rfl ?_ | refine GL.valG rfl (fun hb => rv_to (v' := .bool true) (rv_eqI (by first | exact evb rfl hb | rfl) (by first | exact evb rfl hb | rfl)) (by simp)) rfl ?_
            first | refine GL.skipG rfl rfl ?_ | refine GL.skipU rfl rfl ?_ | refine GL.valT rfl ((by first | exact rv_andT rfl rfl rfl | exact rv_andF rfl rfl rfl | exact rv_pickAnd rfl rfl rfl)) rfl ?_ | refine GL.valG rfl (fun hb => (by first | exact rv_andT (by first | exact evb rfl hb | rfl) (by first | exact evb rfl hb | rfl) (by first | exact evb rfl hb | rfl) | exact rv_andF (by first | exact evb rfl hb | rfl) (by first | exact evb rfl hb | rfl) (by first | exact evb rfl hb | rfl) | exact rv_pickAnd (by first | exact evb rfl hb | rfl) (by first | exact evb rfl hb | rfl) (by first | exact evb rfl hb | rfl))) rfl ?_
            refine GL.val ((by first | exact rv_orF rfl rfl rfl | exact rv_orT rfl rfl rfl | exact rv_pickOr rfl rfl rfl)) rfl ?_
            refine GL.val (rv_move rfl) rfl ?_
            first | refine GL.skipG rfl rfl ?_ | refine GL.skipU rfl rfl ?_ | refine GL.stepG rfl (ot_call hb_10 rfl (callOk fun w hh => works_c w) rfl fun _ _ => ?_)
            refine GL.val ((by first | exact rv_andT rfl rfl rfl | exact rv_andF rfl rfl rfl | exact rv_pickAnd rfl rfl rfl)) rfl ?_
            refine GL.val (rv_assign rfl) rfl ?_
            refine GL.nil ?_
            exact GX.cut (by repeat (first | exact Sub.nil | refine Sub.cons rfl ?_)) (fun w h => h.take 0)
        refine GX.then ?_
        refine GC.ret ?_
        refine GX.ret1 rfl (RR.tmp rfl) ?_
        exact fun w1 h1 => ⟨(), rfl, h1.take 0, trivial⟩
end Go.Proofs.Ytjbnblkefhpibaa
