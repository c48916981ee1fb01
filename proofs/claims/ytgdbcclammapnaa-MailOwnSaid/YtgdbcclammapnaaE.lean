import Derived.Test.YtgdbcclammapnaaD
set_option linter.unusedVariables false
set_option linter.unusedSimpArgs false
namespace Go.Proofs.Ytgdbcclammapnaa
open Go Go.RowKit Go.Bz
theorem hb_16 : hasBody Try.prog 16 = true := by kernel_rfl
theorem hb_17 : hasBody Try.prog 17 = true := by kernel_rfl
theorem ok_of {ps : List Ml.Pv} {z : Int} (h0 : ¬ ps.length = 0) (h1 : ¬ z < 0) : ¬ (Ml.place (Ml.pl ps) z).2 ≠ 0 ∧ (Ml.place (Ml.pl ps) z).1 = z.tmod ps.length := by
  unfold Ml.place; rw [Ml.pl_len, if_neg h0, if_neg h1]; exact ⟨fun h => h rfl, rfl⟩
theorem er_ne (ps : List Ml.Pv) (k j : Nat) (h : j < ps.length) (e : ¬ j = k) : (ps.take (j + 1)).eraseIdx k = (ps.take j).eraseIdx k ++ [ps[j]] := by
  have hl : (ps.take j).length = j := by rw [List.length_take]; omega
  rw [Ml.take_succ' ps j h]
  by_cases hk : k < j
  · rw [List.eraseIdx_append_of_lt_length (by omega)]
  · rw [List.eraseIdx_append_of_length_le (by omega), List.eraseIdx_of_length_le (l := ps.take j) (by omega), List.eraseIdx_of_length_le (l := [ps[j]]) (by simp; omega)]
theorem er_eq (ps : List Ml.Pv) (k : Nat) (h : k < ps.length) : (ps.take (k + 1)).eraseIdx k = (ps.take k).eraseIdx k := by
  have hl : (ps.take k).length = k := by rw [List.length_take]; omega
  rw [Ml.take_succ' ps k h, List.eraseIdx_append_of_length_le (by omega), hl, Nat.sub_self, List.eraseIdx_of_length_le (l := ps.take k) (by omega)]; simp
theorem er_len (ps : List Ml.Pv) (k j : Nat) : ((ps.take j).eraseIdx k).length ≤ ps.length := Nat.le_trans (List.length_eraseIdx_le ..) (by rw [List.length_take]; omega)
set_option maxRecDepth 100000 in
set_option maxHeartbeats 1000000 in
theorem rtake_c (A : Option Addr) (n c : Nat) (ps : List Ml.Pv) (w : World) (hR : ∀ f ∈ Ml.pfs A ps, SlR w f.1 f.2) (hl : ps.length = n) (hn : n ≤ 1000000) (z : Int) :
    Calls Try.prog 17 [.slice A n c, .int .i64 z].toArray w fun e w' => ∃ g : (Option Addr × Nat) × List Ml.Pv × Ml.Pv, e = .returned (.tuple #[.slice g.1.1 g.2.1.length g.1.2, .agg (Ml.pcell g.2.2).toArray, .int .i64 (Ml.take (Ml.pl ps) z).2.2]) ∧ St noB w w' [frzN [(g.1.1, Ml.pcs g.2.1)]] ∧
      Ml.pl g.2.1 = (Ml.take (Ml.pl ps) z).1 ∧ g.2.2.1 = (Ml.take (Ml.pl ps) z).2.1 ∧ (∀ r ∈ g.2.1, r ∈ ps) ∧ (g.2.2 ∈ ps ∨ g.2.2 = (Ml.zero, (none, 0))) ∧ ((Ml.take (Ml.pl ps) z).2.2 = 0 → g.2.2 ∈ ps) := by
  refine GC.calls Try.func17 rfl rfl (St.begin _) ?_
  subst hl
  have HA := Ml.pHead (hR (A, Ml.pcs ps) (List.mem_cons_self ..))
  have hpl := Ml.pl_len ps
  refine GC.seq ?_
  refine GC.reg ?_
  refine GL.val (rv_assign rfl) rfl ?_
  refine GL.step (ot_alloc (zs := [.int .i64 0, .int .i64 0, .slice none 0 0]) zb_25 rfl rfl fun b5 => ?_)
  refine GL.val (rv_assign rfl) rfl ?_
  refine GL.nil ?_
  refine GX.then ?_
  refine GC.seq ?_
  refine GC.seq ?_
  refine GC.reg ?_
  refine GL.val (rv_move rfl) rfl ?_
  refine GL.val (rv_lenSl Try.underlying22 rfl) rfl ?_
  refine GL.val (rv_eqI rfl rfl) rfl ?_
  refine GL.nil ?_
  refine GX.then ?_
  first | refine GC.condP rfl (fun c1 => ?_) (fun c1 => ?_) | refine GC.cond rfl (fun c1 => ?_) (fun c1 => ?_)
  · refine GC.seq ?_
    refine GC.reg ?_
    refine GL.val (rv_buildS pl_25 zb_25 rfl rfl (by first | ((simp only [bldL, repl, List.set_cons_zero, List.set_cons_succ, List.getElem?_cons_zero, List.getElem?_cons_succ, Option.getD_some, Value.cells]) <;> rfl) | rfl)) rfl ?_
    refine GL.val (rv_assign rfl) rfl ?_
    first | refine GL.step (ot_store (k := 0) rfl rfl rfl rfl sz_25 rfl rfl (by first | ((simp only [repl, List.set_cons_zero, List.set_cons_succ]) <;> rfl) | rfl) ?_)
    refine GL.val (rv_assign rfl) rfl ?_
    refine GL.nil ?_
    refine GX.then ?_
    refine GC.ret ?_
    refine GX.then_ret ?_
    refine GX.ret3 rfl (RR.tmp rfl) (RR.cell ag_25 rfl (by first | exact Hd.cellsAll (k := 0) rfl | exact Hd.cells0 (by assumption) (by first | exact fun h => h | assumption)) (by exact sz_25)) (RR.tmp rfl) ?_
    have e : Ml.take (Ml.pl ps) z = ([], Ml.zero, 7) := if_pos (by omega)
    rw [e]
    exact fun w h => ⟨((none, 0), [], (Ml.zero, (none, 0))), rfl, (St.pcNil h).take 1, rfl, rfl, (fun _ h => by cases h), .inr rfl, (fun h => by cases h)⟩
  · refine GC.skip ?_
    refine GX.then ?_
    refine GC.seq ?_
    refine GC.seq ?_
    refine GC.reg ?_
    refine GL.val (rv_move rfl) rfl ?_
    refine GL.val (rv_lss rfl rfl) rfl ?_
    refine GL.nil ?_
    refine GX.then ?_
    first | refine GC.condP rfl (fun c2 => ?_) (fun c2 => ?_) | refine GC.cond rfl (fun c2 => ?_) (fun c2 => ?_)
    · refine GC.seq ?_
      refine GC.reg ?_
      refine GL.val (rv_buildS pl_25 zb_25 rfl rfl (by first | ((simp only [bldL, repl, List.set_cons_zero, List.set_cons_succ, List.getElem?_cons_zero, List.getElem?_cons_succ, Option.getD_some, Value.cells]) <;> rfl) | rfl)) rfl ?_
      refine GL.val (rv_assign rfl) rfl ?_
      first | refine GL.step (ot_store (k := 0) rfl rfl rfl rfl sz_25 rfl rfl (by first | ((simp only [repl, List.set_cons_zero, List.set_cons_succ]) <;> rfl) | rfl) ?_)
      refine GL.val (rv_assign rfl) rfl ?_
      refine GL.nil ?_
      refine GX.then ?_
      refine GC.ret ?_
      refine GX.then_ret ?_
      refine GX.ret3 rfl (RR.tmp rfl) (RR.cell ag_25 rfl (by first | exact Hd.cellsAll (k := 0) rfl | exact Hd.cells0 (by assumption) (by first | exact fun h => h | assumption)) (by exact sz_25)) (RR.tmp rfl) ?_
      have e : Ml.take (Ml.pl ps) z = ([], Ml.zero, 2) := (if_neg (by omega)).trans (if_pos (by omega))
      rw [e]
      exact fun w h => ⟨((none, 0), [], (Ml.zero, (none, 0))), rfl, (St.pcNil h).take 1, rfl, rfl, (fun _ h => by cases h), .inr rfl, (fun h => by cases h)⟩
    · obtain ⟨k, hk, ek, e, _⟩ := Ml.place_ok (ok_of (z := z) (ps := ps) (by omega) (by omega)).1
      have ek' : z.tmod ps.length = (k : Int) := (ok_of (by omega) (by omega)).2.symm.trans ek
      refine GC.skip ?_
      refine GX.then ?_
      refine GC.seq ?_
      refine GC.reg ?_
      refine GL.val (rv_move rfl) rfl ?_
      refine GL.val (rv_move rfl) rfl ?_
      refine GL.val (rv_lenSl Try.underlying22 rfl) rfl ?_
      refine GL.val (rv_to (v' := .int .i64 (k : Int)) (rv_rem rfl rfl (by omega)) (by rw [ek'])) rfl ?_
      refine GL.val (rv_assign rfl) rfl ?_
      refine GL.nil ?_
      refine GX.then ?_
      refine GC.seq ?_
      refine GC.reg ?_
      refine GL.val (rv_assign rfl) rfl ?_
      refine GL.nil ?_
      refine GX.then ?_
      refine GC.seq ?_
      refine GC.seq ?_
      refine GC.reg ?_
      refine GL.val (rv_assign rfl) rfl ?_
      refine GL.nil ?_
      refine GX.then ?_
      refine GC.block ?_
      refine GC.loop (γ := Nat × (Option Addr × Nat)) (fun g => [(0, .slice A ps.length c), (5, .pointer (some ⟨b5, 0, none⟩)), (7, .int .i64 (k : Int)), (8, .slice g.2.1 ((ps.take g.1).eraseIdx k).length g.2.2), (9, .int .i64 (g.1 : Int))]) (fun g => [.row g.2.1 g.2.2 25 3 ((ps.take g.1).eraseIdx k).length (Ml.pcs ((ps.take g.1).eraseIdx k)), .cl b5 [.int .i64 0, .int .i64 0, .slice none 0 0] 25]) (fun g => g.1 ≤ ps.length) (fun g => ps.length - g.1) ((0, (none, 0))) (Nat.zero_le _) (by repeat (first | exact Sub.nil | refine Sub.cons rfl ?_)) (fun w h => h.nilRow 25 3) (fun ⟨j, ⟨A8, c8⟩⟩ hj => ?_)
      dsimp only at hj ⊢
      have hel := er_len ps k j
      refine GC.seq ?_
      refine GC.seq ?_
      refine GC.reg ?_
      refine GL.val (rv_move rfl) rfl ?_
      refine GL.val (rv_move rfl) rfl ?_
      refine GL.val (rv_lenSl Try.underlying22 rfl) rfl ?_
      refine GL.val (rv_lss rfl rfl) rfl ?_
      refine GL.nil ?_
      refine GX.then ?_
      first | refine GC.condP rfl (fun c3 => ?_) (fun c3 => ?_) | refine GC.cond rfl (fun c3 => ?_) (fun c3 => ?_)
      · have hlt : j < ps.length := by omega
        obtain ⟨b, o, rfl, hC⟩ := HA.resolve_left (by omega)
        refine GC.skip ?_
        refine GX.then ?_
        refine GC.seq ?_
        refine GC.block ?_
        refine GC.seq ?_
        refine GC.reg ?_
        refine GL.val (rv_move rfl) rfl ?_
        refine GL.val (rv_move rfl) rfl ?_
        refine GL.val (rv_neI rfl rfl) rfl ?_
        refine GL.nil ?_
        refine GX.then ?_
        first | refine GC.condP rfl (fun c4 => ?_) (fun c4 => ?_) | refine GC.cond rfl (fun c4 => ?_) (fun c4 => ?_)
        · refine GC.reg ?_
          refine GL.val (rv_move rfl) rfl ?_
          refine GL.val (rv_move rfl) rfl ?_
          refine GL.val (rv_move rfl) rfl ?_
          refine GL.val (rv_elem es_22 rfl rfl (by omega) (by omega)) rfl ?_
          refine GL.val (rv_loadA ag_25 rfl (Hd.cells0 (Ml.pcC hC hlt) (fun h => h)) (by exact sz_25)) rfl ?_
          refine GL.step (ot_buildSlice ei_22 rfl rfl rfl rfl rfl rfl fun b35 => ?_)
          first | refine GL.step (ot_append (k := 1) ei_22 rfl rfl rfl (by rfl) (fun w h => .inr ⟨_, _, rfl, Hd.cellsAll (k := 0) rfl w h⟩) (by rfl) (by omega) (by decide) rfl fun A36 c36 z36 => ?_) | refine GL.step (ot_append (k := 2) ei_22 rfl rfl rfl (by rfl) (fun w h => .inr ⟨_, _, rfl, Hd.cellsAll (k := 0) rfl w h⟩) (by rfl) (by omega) (by decide) rfl fun A36 c36 z36 => ?_) | refine GL.step (ot_append (k := 0) ei_22 rfl rfl rfl (by rfl) (fun w h => .inr ⟨_, _, rfl, Hd.cellsAll (k := 1) rfl w h⟩) (by rfl) (by omega) (by decide) rfl fun A36 c36 z36 => ?_) | refine GL.step (ot_append (k := 2) ei_22 rfl rfl rfl (by rfl) (fun w h => .inr ⟨_, _, rfl, Hd.cellsAll (k := 1) rfl w h⟩) (by rfl) (by omega) (by decide) rfl fun A36 c36 z36 => ?_) | refine GL.step (ot_append (k := 0) ei_22 rfl rfl rfl (by rfl) (fun w h => .inr ⟨_, _, rfl, Hd.cellsAll (k := 2) rfl w h⟩) (by rfl) (by omega) (by decide) rfl fun A36 c36 z36 => ?_) | refine GL.step (ot_append (k := 1) ei_22 rfl rfl rfl (by rfl) (fun w h => .inr ⟨_, _, rfl, Hd.cellsAll (k := 2) rfl w h⟩) (by rfl) (by omega) (by decide) rfl fun A36 c36 z36 => ?_)
          refine GL.st (fun w h => h.drop 0) ?_
          refine GL.val (rv_assign rfl) rfl ?_
          refine GL.nil ?_
          refine GX.blk ?_
          refine GX.then ?_
          refine GC.reg ?_
          refine GL.val (rv_move rfl) rfl ?_
          refine GL.val (rv_add rfl rfl (by omega) (by omega)) rfl ?_
          refine GL.val (rv_assign rfl) rfl ?_
          refine GL.nil ?_
          have e1 := er_ne ps k j hlt (by omega)
          exact GX.round (j + 1, (A36, c36)) (by show _ - (j + 1) < _ - j; omega) (by show j + 1 ≤ _; omega) (by dsimp only; rw [e1, List.length_append]; exact (by repeat (first | exact Sub.nil | refine Sub.cons rfl ?_))) (fun w h => by dsimp only; rw [e1, List.length_append, Ml.pcs_app]; exact h)
        · refine GC.skip ?_
          refine GX.blk ?_
          refine GX.then ?_
          refine GC.reg ?_
          refine GL.val (rv_move rfl) rfl ?_
          refine GL.val (rv_add rfl rfl (by omega) (by omega)) rfl ?_
          refine GL.val (rv_assign rfl) rfl ?_
          refine GL.nil ?_
          obtain rfl : j = k := by omega
          have e1 := er_eq ps j hlt
          exact GX.round (j + 1, (A8, c8)) (by show _ - (j + 1) < _ - j; omega) (by show j + 1 ≤ _; omega) (by dsimp only; rw [e1]; exact (by repeat (first | exact Sub.nil | refine Sub.cons rfl ?_))) (fun w h => by dsimp only; rw [e1]; exact h)
      · obtain rfl : j = ps.length := by omega
        obtain ⟨b, o, rfl, hC⟩ := HA.resolve_left (by omega)
        refine GC.exit ?_
        refine GX.then_exit ?_
        refine GX.then_exit ?_
        refine GX.blk_eq ?_
        refine GX.then ?_
        refine GC.seq ?_
        refine GC.draw 6 [] mo_ ?_
        refine GD.pure (i := 0) rfl (fun _ _ => rv_move rfl) (by kernel_rfl) (by repeat (first | exact noPanicPut_body | exact noPanicPut_cut | exact noPanicPut_cutE | refine noPanicPut_then ?_ | refine noPanicPut_blk ?_)) ?_
        refine GD.pure (i := 1) rfl (fun _ _ => rv_move rfl) (by kernel_rfl) (by repeat (first | exact noPanicPut_body | exact noPanicPut_cut | exact noPanicPut_cutE | refine noPanicPut_then ?_ | refine noPanicPut_blk ?_)) ?_
        refine GD.pure (i := 2) rfl (fun _ _ => rv_move rfl) (by kernel_rfl) (by repeat (first | exact noPanicPut_body | exact noPanicPut_cut | exact noPanicPut_cutE | refine noPanicPut_then ?_ | refine noPanicPut_blk ?_)) ?_
        refine GD.pure (i := 3) rfl (fun _ _ => rv_elem es_22 rfl rfl (by omega) (by omega)) (by kernel_rfl) (by repeat (first | exact noPanicPut_body | exact noPanicPut_cut | exact noPanicPut_cutE | refine noPanicPut_then ?_ | refine noPanicPut_blk ?_)) ?_
        refine GD.pure (i := 5) rfl (fun _ _ => rv_assign rfl) (by kernel_rfl) (by repeat (first | exact noPanicPut_body | exact noPanicPut_cut | exact noPanicPut_cutE | refine noPanicPut_then ?_ | refine noPanicPut_blk ?_)) ?_
        refine GD.read (i := 4) rfl (rv_loadA ag_25 rfl (Hd.cells0 (Ml.pcC hC hk) (fun h => h)) (by exact sz_25)) (by kernel_rfl) (by repeat (first | exact noPanicPut_body | exact noPanicPut_cut | exact noPanicPut_cutE | refine noPanicPut_then ?_ | refine noPanicPut_blk ?_)) ?_
        first | refine GD.step (i := 6) (by kernel_rfl) rfl (ot_store (k := 0) rfl rfl rfl rfl sz_25 rfl rfl (by first | ((simp only [repl, List.set_cons_zero, List.set_cons_succ]) <;> rfl) | rfl) ⟨.inl rfl, ?_⟩) | refine GD.step (i := 6) (by kernel_rfl) rfl (ot_store (k := 1) rfl rfl rfl rfl sz_25 rfl rfl (by first | ((simp only [repl, List.set_cons_zero, List.set_cons_succ]) <;> rfl) | rfl) ⟨.inl rfl, ?_⟩)
        refine GD.pure (i := 7) rfl (fun _ _ => rv_assign rfl) (by kernel_rfl) (by repeat (first | exact noPanicPut_body | exact noPanicPut_cut | exact noPanicPut_cutE | refine noPanicPut_then ?_ | refine noPanicPut_blk ?_)) ?_
        refine GD.done (by kernel_rfl) ?_
        refine GX.then ?_
        refine GC.ret ?_
        refine GX.ret3 rfl (RR.tmp rfl) (RR.cell ag_25 rfl (by first | exact Hd.cellsAll (k := 0) rfl | exact Hd.cellsAll (k := 1) rfl | exact Hd.cells0 (by assumption) (by first | exact fun h => h | assumption)) (by exact sz_25)) (RR.tmp rfl) ?_
        rw [List.take_of_length_le (Nat.le_refl _)]
        exact fun w h => ⟨((A8, c8), ps.eraseIdx k, ps[k]), by rw [e]; rfl, (h.rowFrz (k := 0) rfl).take 1, by rw [e, pl_er], by rw [e], fun r hr => List.mem_of_mem_eraseIdx hr, .inl (List.getElem_mem hk), fun _ => List.getElem_mem hk⟩
set_option maxRecDepth 100000 in
set_option maxHeartbeats 1000000 in
theorem rdouble_c (A : Option Addr) (n c : Nat) (ps : List Ml.Pv) (w : World) (hR : ∀ f ∈ Ml.pfs A ps, SlR w f.1 f.2) (hl : ps.length = n) (hn : n ≤ 1000000) (hb : ∀ q ∈ ps, q.1.2.2.length ≤ 100000000) (z : Int) :
    Calls Try.prog 18 [.slice A n c, .int .i64 z].toArray w fun e w' => ∃ g : (Option Addr × Nat) × List Ml.Pv, e = .returned (.tuple #[.slice g.1.1 g.2.length g.1.2, .int .i64 (Ml.double (Ml.pl ps) z).2]) ∧ St noB w w' [frzN [(g.1.1, Ml.pcs g.2)]] ∧ Ml.pl g.2 = (Ml.double (Ml.pl ps) z).1 ∧ ∀ r ∈ g.2, r ∈ ps := by
  refine GC.calls Try.func18 rfl rfl (St.begin _) ?_
  subst hl
  have hpl := Ml.pl_len ps
  have hte : (Ml.take (Ml.pl ps) z).2.2 = (Ml.place (Ml.pl ps) z).2 := by
    unfold Ml.take Ml.place; split
    · rfl
    · split <;> rfl
  refine GC.seq ?_
  refine GC.reg ?_
  refine GL.val (rv_assign rfl) rfl ?_
  refine GL.val (rv_assign rfl) rfl ?_
  refine GL.nil ?_
  refine GX.then ?_
  refine GC.seq ?_
  refine GC.reg ?_
  refine GL.val (rv_move rfl) rfl ?_
  refine GL.val (rv_move rfl) rfl ?_
  refine GL.step (ot_call hb_17 rfl (callOk fun w hh => rtake_c A _ c ps w (fun f hf => hh.rd0n (hR f hf)) rfl hn z) rfl fun g12 hg => ?_)
  obtain ⟨⟨A12, c12⟩, ts, p⟩ := g12
  obtain ⟨t1, t2, t3, t4, t5⟩ := hg
  dsimp only at t1 t2 t3 t4 t5
  refine GL.val (rv_move rfl) rfl ?_
  refine GL.val (rv_extract rfl rfl) rfl ?_
  refine GL.val (rv_extract rfl rfl) rfl ?_
  refine GL.val (rv_extract rfl rfl) rfl ?_
  refine GL.step (ot_alloc (zs := [.int .i64 0, .int .i64 0, .slice none 0 0]) zb_25 rfl rfl fun b7 => ?_)
  refine GL.val (rv_assign rfl) rfl ?_
  first | refine GL.step (ot_store (k := 0) rfl rfl rfl rfl sz_25 rfl rfl (by first | ((simp only [repl, List.set_cons_zero, List.set_cons_succ]) <;> rfl) | rfl) ?_) | refine GL.step (ot_store (k := 1) rfl rfl rfl rfl sz_25 rfl rfl (by first | ((simp only [repl, List.set_cons_zero, List.set_cons_succ]) <;> rfl) | rfl) ?_)
  refine GL.val (rv_assign rfl) rfl ?_
  refine GL.nil ?_
  refine GX.then ?_
  refine GC.seq ?_
  refine GC.seq ?_
  refine GC.reg ?_
  refine GL.val (rv_move rfl) rfl ?_
  refine GL.val (rv_neI rfl rfl) rfl ?_
  refine GL.nil ?_
  refine GX.then ?_
  first | refine GC.condP rfl (fun c1 => ?_) (fun c1 => ?_) | refine GC.cond rfl (fun c1 => ?_) (fun c1 => ?_)
  · have e := Ml.double_err (by rw [← hte]; exact c1)
    refine GC.seq ?_
    refine GC.reg ?_
    refine GL.val (rv_move rfl) rfl ?_
    refine GL.val (rv_assign rfl) rfl ?_
    refine GL.val (rv_assign rfl) rfl ?_
    refine GL.nil ?_
    refine GX.then ?_
    refine GC.ret ?_
    refine GX.then_ret ?_
    refine GX.ret2 rfl (RR.tmp rfl) (RR.tmp rfl) ?_
    rw [e, hte]
    exact fun w h => ⟨((none, 0), []), rfl, (St.pcNil h).take 1, rfl, fun _ h => by cases h⟩
  · have hp : p ∈ ps := t5 (by simpa using c1)
    obtain ⟨k, hk, ek, e', e⟩ := Ml.place_ok (ps := ps) (z := z) (by rw [← hte]; exact c1)
    rw [e'] at t2
    refine GC.skip ?_
    refine GX.then ?_
    refine GC.seq ?_
    refine GC.reg ?_
    refine GL.val (rv_move rfl) rfl ?_
    refine GL.val (rv_loadA ag_25 rfl (by first | exact Hd.cellsAll (k := 0) rfl | exact Hd.cellsAll (k := 1) rfl | exact Hd.cells0 (by assumption) (by first | exact fun h => h | assumption)) (by exact sz_25)) rfl ?_
    refine GL.step (ot_call hb_16 rfl (callOk fun w hh => rsend_c A _ c ps w (fun f hf => hh.rd0n (hR f hf)) rfl hn p (hh.rd0n (hR _ (List.mem_cons_of_mem _ (List.mem_map_of_mem hp)))) (hb p hp)) rfl fun g21 hg => ?_)
    refine GL.val (rv_extract rfl rfl) rfl ?_
    refine GL.val (rv_extract rfl rfl) rfl ?_
    refine GL.val (rv_assign rfl) rfl ?_
    refine GL.val (rv_assign rfl) rfl ?_
    refine GL.nil ?_
    refine GX.then ?_
    refine GC.ret ?_
    refine GX.ret2 rfl (RR.tmp rfl) (RR.tmp rfl) ?_
    obtain ⟨h1, h2⟩ := hg
    dsimp only at t2
    rw [e, ← t2]
    exact fun w h => ⟨g21, rfl, h.take 1, h1, fun r hr => (h2 r hr).elim id (fun e => e ▸ hp)⟩
end Go.Proofs.Ytgdbcclammapnaa
