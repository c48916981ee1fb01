import Derived.Test.YtkifeeiafachpaaJa
set_option linter.unusedVariables false
set_option linter.unusedSimpArgs false
namespace Go.Proofs.Ytkifeeiafachpaa
open Go Go.RowKit Go.Bz

theorem right_take {l : List BindZ} {i : Nat} (hi : i < l.length) (h1 : ∀ b ∈ (l.map bpl).take i, okB b) (h2 : sortP ((l.map bpl).take i)) (hb : okB (bpl l[i])) (hs : 0 < i → nlt (l[i - 1]'(by omega)).1 l[i].1) :
    (∀ b ∈ (l.map bpl).take (i + 1), okB b) ∧ sortP ((l.map bpl).take (i + 1)) := by
  have e : (l.map bpl).take (i + 1) = (l.map bpl).take i ++ [bpl l[i]] := by rw [List.take_succ_eq_append_getElem (by rw [List.length_map]; exact hi), List.getElem_map]
  rw [e]
  refine ⟨fun b hm => ?_, sortP_snoc h2 fun y hy => ?_⟩
  · rcases List.mem_append.1 hm with hm | hm
    · exact h1 b hm
    · obtain rfl := List.mem_singleton.1 hm; exact hb
  · rw [List.getLast?_eq_getElem?, List.getElem?_take] at hy
    have hl : ((l.map bpl).take i).length = i := by rw [List.length_take, List.length_map]; omega
    rw [hl] at hy
    by_cases h0 : i = 0
    · subst h0; simp at hy
    · rw [if_pos (by omega), List.getElem?_map, List.getElem?_eq_getElem (by omega)] at hy
      simp only [Option.map_some, Option.some.injEq] at hy
      subst hy
      exact hs (by omega)
theorem not_right {l : List BindZ} {i : Nat} (hi : i < l.length) (h : ¬ (okB (bpl l[i]) ∧ (0 < i → nlt (l[i - 1]'(by omega)).1 l[i].1))) : ¬ rightL (l.map bpl) := fun hr => by
  apply h
  refine ⟨hr.1 _ (List.mem_map_of_mem (List.getElem_mem _)), fun h0 => ?_⟩
  have := List.pairwise_iff_getElem.1 hr.2.1 (i - 1) i (by rw [List.length_map]; omega) (by rw [List.length_map]; exact hi) (by omega)
  simpa [bpl] using this
theorem okB_iff {z : BindZ} : okB (bpl z) ↔ chk z.1 z.2.1 = 0 ∧ z.2.2.2 ≠ 0 := Iff.rfl
theorem checkZ_c (z : BindZ) (w : World) (hs : z.1.size < 4611686018427387904) : Calls Try.prog 42 [.agg (bzc z).toArray].toArray w fun e w' => ∃ _g : Unit, e = .returned (.int .i64 (chk z.1 z.2.1)) ∧ St noB w w' [] ∧ True := check_c2 z.1 z.2.1 z.2.2.1.1 z.2.2.1.2 z.2.2.2 w hs
set_option maxRecDepth 100000 in
set_option maxHeartbeats 1000000 in
theorem right_c (A : Option Addr) (c : Nat) (l : List BindZ) (w : World) (hR : SlR w A (fcat bzc l)) (hok : eOk ((A, c), l)) : Calls Try.prog 25 [.slice A l.length c].toArray w fun e w' => ∃ _g : Unit, e = .returned (.bool (decide (rightL (l.map bpl)))) ∧ St noB w w' [] ∧ True := by
  refine GC.calls Try.func25 rfl rfl (St.begin _) ?_
  obtain ⟨hok1, hok2, hok9⟩ := hok
  dsimp only at hok1 hok2 hok9
  refine GC.seq ?_
  refine GC.reg ?_
  refine GL.val (rv_assign rfl) rfl ?_
  refine GL.nil ?_
  refine GX.then ?_
  refine GC.seq ?_
  refine GC.seq ?_
  refine GC.reg ?_
  refine GL.val (rv_move rfl) rfl ?_
  refine GL.val (rv_lenSl Try.underlying46 rfl) rfl ?_
  refine GL.val (rv_move rfl) rfl ?_
  refine GL.nil ?_
  refine GX.then ?_
  refine GC.block ?_
  refine GC.loopK (γ := Nat) [6, 5, 0] [] (fun g Lk => (7, .int .i64 (g : Int)) :: Lk) (fun g Fk => Fk) (fun g => (g ≤ l.length) ∧ (∀ b ∈ (l.map bpl).take g, okB b) ∧ (sortP ((l.map bpl).take g))) (fun g => l.length - g) (0) rfl rfl ⟨Nat.zero_le _, (fun b h => by simp at h), List.Pairwise.nil⟩ (by repeat (first | exact Sub.nil | refine Sub.cons rfl ?_)) (fun w9 h => by
      exact h) (fun i ⟨hi, h1, h2⟩ => ?_)
  skip
  refine GC.seq ?_
  refine GC.reg ?_
  refine GL.val (rv_lss rfl rfl) rfl ?_
  refine GL.nil ?_
  refine GX.then ?_
  refine GC.seq ?_
  refine GC.condP rfl (fun c8 => ?_) (fun c8 => ?_)
  · have hlt : i < l.length := by omega
    obtain ⟨b, o, rfl, hC⟩ := slr_some hR (fcat_ne bz_len (by decide) hlt)
    refine GC.skip ?_
    refine GX.then ?_
    refine GC.seq ?_
    refine GC.block ?_
    refine GC.seq ?_
    refine GC.reg ?_
    refine GL.val (rv_move rfl) rfl ?_
    refine GL.val (rv_elemJ (q := o + i * 3) i es_46 rfl rfl rfl hlt rfl) rfl ?_
    refine GL.val (rv_loadA ag_49 rfl (Hd.cells0 (hC.fcat bz_len i hlt) (fun h => h)) (by exact sz_49)) rfl ?_
    refine GL.step (ot_alloc (zs := [.string ByteArray.empty, .slice none 0 0, .int .u64 0]) zb_49 rfl rfl fun b4 => ?_)
    refine GL.val (rv_assign rfl) rfl ?_
    refine GL.step (ot_store (k := 0) rfl rfl rfl rfl sz_49 rfl rfl (show repl _ 0 (bzc l[i]) = bzc l[i] from rfl) ?_)
    refine GL.nil ?_
    refine GX.then ?_
    refine GC.seq ?_
    refine GC.cutq (γ := Unit) [7, 6, 5, 0] [0] (fun g Lk => (34, .bool (decide (¬ (okB (bpl l[i]) ∧ (0 < i → nlt (l[i - 1]'(by omega)).1 l[i].1))))) :: Lk) (fun g Fk => Fk) (fun g => True) rfl rfl ?_ (fun _ _ => ?_)
    · rcases (by by_cases h1 : chk l[i].1 l[i].2.1 = 0 <;> by_cases h2 : l[i].2.2.2 = 0 <;> by_cases h3 : 0 < i <;> simp [h1, h2, h3] : (¬ chk l[i].1 l[i].2.1 = 0) ∨ (chk l[i].1 l[i].2.1 = 0 ∧ l[i].2.2.2 = 0) ∨ (chk l[i].1 l[i].2.1 = 0 ∧ ¬ l[i].2.2.2 = 0 ∧ ¬ 0 < i) ∨ (chk l[i].1 l[i].2.1 = 0 ∧ ¬ l[i].2.2.2 = 0 ∧ 0 < i)) with h | h | h | h
      · rw [show decide (¬ (okB (bpl l[i]) ∧ (0 < i → nlt (l[i - 1]'(by omega)).1 l[i].1))) = true from decide_eq_true (fun q => h (okB_iff.1 q.1).1)]
        refine GC.draw 23 [0] mo_ ?_
        refine GD.step (i := 0) (by kernel_rfl) rfl (ot_val (rv_loadA ag_49 rfl (by exact Hd.cellsAll (k := 0) rfl) (by exact sz_49)) rfl ⟨.inr fun _ h => h.pk [0], ?_⟩)
        refine GD.step (i := 1) (by kernel_rfl) rfl (ot_call hb_42 rfl (callOk fun w hh => checkZ_c l[i] w (hok1 _ (List.getElem_mem hlt)).1) rfl fun _ _ => ⟨.inr fun _ h => h.pk [0], ?_⟩)
        refine GD.pure1 (i := 2) rfl (fun _ _ => (by exact rv_to (v' := .bool true) (rv_neI rfl rfl) (by simp only [Value.bool.injEq, decide_eq_true_eq, decide_eq_false_iff_not]; first | assumption | omega))) ?_
        refine GD.pure1 (i := 3) rfl (fun _ _ => rv_move rfl) ?_
        refine GD.skipG1 (i := 4) rfl rfl ?_
        refine GD.skipG1 (i := 5) rfl rfl ?_
        refine GD.skipG1 (i := 6) rfl rfl ?_
        refine GD.pure1 (i := 7) rfl (fun _ _ => (by exact rv_orT rfl rfl rfl)) ?_
        refine GD.pure1 (i := 8) rfl (fun _ _ => rv_move rfl) ?_
        refine GD.skipG1 (i := 9) rfl rfl ?_
        refine GD.skipG1 (i := 10) rfl rfl ?_
        refine GD.skipG1 (i := 11) rfl rfl ?_
        refine GD.skipU1 (i := 12) rfl rfl ?_
        refine GD.skipU1 (i := 13) rfl rfl ?_
        refine GD.skipU1 (i := 14) rfl rfl ?_
        refine GD.skipU1 (i := 15) rfl rfl ?_
        refine GD.skipU1 (i := 16) rfl rfl ?_
        refine GD.skipU1 (i := 18) rfl rfl ?_
        refine GD.skipU1 (i := 17) rfl rfl ?_
        refine GD.skipU1 (i := 19) rfl rfl ?_
        refine GD.skipU1 (i := 20) rfl rfl ?_
        refine GD.skipG1 (i := 21) rfl rfl ?_
        refine GD.pure1 (i := 22) rfl (fun _ _ => (by exact rv_orT rfl rfl rfl)) ?_
        refine GD.done (by kernel_rfl) ?_
        exact GX.cutq () trivial (by repeat (first | exact Sub.nil | refine Sub.cons rfl ?_)) (fun w9 h => by
            exact h)
      · obtain ⟨h1, h2⟩ := h
        rw [show decide (¬ (okB (bpl l[i]) ∧ (0 < i → nlt (l[i - 1]'(by omega)).1 l[i].1))) = true from decide_eq_true (fun q => (okB_iff.1 q.1).2 h2)]
        refine GC.draw 23 [0] mo_ ?_
        refine GD.step (i := 0) (by kernel_rfl) rfl (ot_val (rv_loadA ag_49 rfl (by exact Hd.cellsAll (k := 0) rfl) (by exact sz_49)) rfl ⟨.inr fun _ h => h.pk [0], ?_⟩)
        refine GD.step (i := 1) (by kernel_rfl) rfl (ot_call hb_42 rfl (callOk fun w hh => checkZ_c l[i] w (hok1 _ (List.getElem_mem hlt)).1) rfl fun _ _ => ⟨.inr fun _ h => h.pk [0], ?_⟩)
        refine GD.pure1 (i := 2) rfl (fun _ _ => (by exact rv_to (v' := .bool false) (rv_neI rfl rfl) (by simp only [Value.bool.injEq, decide_eq_true_eq, decide_eq_false_iff_not]; first | assumption | omega))) ?_
        refine GD.pure1 (i := 3) rfl (fun _ _ => rv_move rfl) ?_
        refine GD.pureG1 (i := 4) rfl rfl (fun _ _ => rv_field fo_49_2 rfl rfl) ?_
        refine GD.stepG (i := 5) (by kernel_rfl) rfl rfl (ot_val (rv_load ag_24 rfl (by exact Hd.cell (k := 0) rfl rfl)) rfl ⟨.inr fun _ h => h.pk [0], ?_⟩)
        refine GD.pureG1 (i := 6) rfl rfl (fun _ _ => (by exact rv_to (v' := .bool true) (rv_eq64 (b := 0) rfl rfl) (by simp only [Value.bool.injEq, decide_eq_true_eq, decide_eq_false_iff_not]; first | assumption | omega))) ?_
        refine GD.pure1 (i := 7) rfl (fun _ _ => (by exact rv_orF rfl rfl rfl)) ?_
        refine GD.pure1 (i := 8) rfl (fun _ _ => rv_move rfl) ?_
        refine GD.skipG1 (i := 9) rfl rfl ?_
        refine GD.skipG1 (i := 10) rfl rfl ?_
        refine GD.skipG1 (i := 11) rfl rfl ?_
        refine GD.skipU1 (i := 12) rfl rfl ?_
        refine GD.skipU1 (i := 13) rfl rfl ?_
        refine GD.skipU1 (i := 14) rfl rfl ?_
        refine GD.skipU1 (i := 15) rfl rfl ?_
        refine GD.skipU1 (i := 16) rfl rfl ?_
        refine GD.skipU1 (i := 18) rfl rfl ?_
        refine GD.skipU1 (i := 17) rfl rfl ?_
        refine GD.skipU1 (i := 19) rfl rfl ?_
        refine GD.skipU1 (i := 20) rfl rfl ?_
        refine GD.skipG1 (i := 21) rfl rfl ?_
        refine GD.pure1 (i := 22) rfl (fun _ _ => (by exact rv_orT rfl rfl rfl)) ?_
        refine GD.done (by kernel_rfl) ?_
        exact GX.cutq () trivial (by repeat (first | exact Sub.nil | refine Sub.cons rfl ?_)) (fun w9 h => by
            exact h)
      · obtain ⟨h1, h2, h3⟩ := h
        rw [show decide (¬ (okB (bpl l[i]) ∧ (0 < i → nlt (l[i - 1]'(by omega)).1 l[i].1))) = false from decide_eq_false (fun q => q ⟨okB_iff.2 ⟨h1, h2⟩, fun h => absurd h h3⟩)]
        refine GC.draw 23 [0] mo_ ?_
        refine GD.step (i := 0) (by kernel_rfl) rfl (ot_val (rv_loadA ag_49 rfl (by exact Hd.cellsAll (k := 0) rfl) (by exact sz_49)) rfl ⟨.inr fun _ h => h.pk [0], ?_⟩)
        refine GD.step (i := 1) (by kernel_rfl) rfl (ot_call hb_42 rfl (callOk fun w hh => checkZ_c l[i] w (hok1 _ (List.getElem_mem hlt)).1) rfl fun _ _ => ⟨.inr fun _ h => h.pk [0], ?_⟩)
        refine GD.pure1 (i := 2) rfl (fun _ _ => (by exact rv_to (v' := .bool false) (rv_neI rfl rfl) (by simp only [Value.bool.injEq, decide_eq_true_eq, decide_eq_false_iff_not]; first | assumption | omega))) ?_
        refine GD.pure1 (i := 3) rfl (fun _ _ => rv_move rfl) ?_
        refine GD.pureG1 (i := 4) rfl rfl (fun _ _ => rv_field fo_49_2 rfl rfl) ?_
        refine GD.stepG (i := 5) (by kernel_rfl) rfl rfl (ot_val (rv_load ag_24 rfl (by exact Hd.cell (k := 0) rfl rfl)) rfl ⟨.inr fun _ h => h.pk [0], ?_⟩)
        refine GD.pureG1 (i := 6) rfl rfl (fun _ _ => (by exact rv_to (v' := .bool false) (rv_eq64 (b := 0) rfl rfl) (by simp only [Value.bool.injEq, decide_eq_true_eq, decide_eq_false_iff_not]; first | assumption | omega))) ?_
        refine GD.pure1 (i := 7) rfl (fun _ _ => (by exact rv_orF rfl rfl rfl)) ?_
        refine GD.pure1 (i := 8) rfl (fun _ _ => rv_move rfl) ?_
        refine GD.pureG1 (i := 9) rfl rfl (fun _ _ => rv_move rfl) ?_
        refine GD.pureG1 (i := 10) rfl rfl (fun _ _ => (by exact rv_to (v' := .bool false) (rv_gtr rfl rfl) (by simp only [Value.bool.injEq, decide_eq_true_eq, decide_eq_false_iff_not]; first | assumption | omega))) ?_
        refine GD.pureG1 (i := 11) rfl rfl (fun _ _ => rv_move rfl) ?_
        refine GD.skipG1 (i := 12) rfl rfl ?_
        refine GD.skipG1 (i := 13) rfl rfl ?_
        refine GD.skipG1 (i := 14) rfl rfl ?_
        refine GD.skipG1 (i := 15) rfl rfl ?_
        refine GD.skipG1 (i := 16) rfl rfl ?_
        refine GD.skipG1 (i := 18) rfl rfl ?_
        refine GD.skipG1 (i := 17) rfl rfl ?_
        refine GD.skipG1 (i := 19) rfl rfl ?_
        refine GD.skipG1 (i := 20) rfl rfl ?_
        refine GD.pureG1 (i := 21) rfl rfl (fun _ _ => (by exact rv_andF rfl rfl rfl)) ?_
        refine GD.pure1 (i := 22) rfl (fun _ _ => (by exact rv_orF rfl rfl rfl)) ?_
        refine GD.done (by kernel_rfl) ?_
        exact GX.cutq () trivial (by repeat (first | exact Sub.nil | refine Sub.cons rfl ?_)) (fun w9 h => by
            exact h)
      · obtain ⟨h1, h2, h3⟩ := h
        have hlt1 : i - 1 < l.length := by omega
        rw [show decide (¬ (okB (bpl l[i]) ∧ (0 < i → nlt (l[i - 1]'(by omega)).1 l[i].1))) = decide (¬ nlt l[i - 1].1 l[i].1) from decide_eq_decide.2 (not_congr ⟨fun q => q.2 h3, fun q => ⟨okB_iff.2 ⟨h1, h2⟩, fun _ => q⟩⟩)]
        refine GC.draw 23 [0] mo_ ?_
        refine GD.step (i := 0) (by kernel_rfl) rfl (ot_val (rv_loadA ag_49 rfl (by exact Hd.cellsAll (k := 0) rfl) (by exact sz_49)) rfl ⟨.inr fun _ h => h.pk [0], ?_⟩)
        refine GD.step (i := 1) (by kernel_rfl) rfl (ot_call hb_42 rfl (callOk fun w hh => checkZ_c l[i] w (hok1 _ (List.getElem_mem hlt)).1) rfl fun _ _ => ⟨.inr fun _ h => h.pk [0], ?_⟩)
        refine GD.pure1 (i := 2) rfl (fun _ _ => (by exact rv_to (v' := .bool false) (rv_neI rfl rfl) (by simp only [Value.bool.injEq, decide_eq_true_eq, decide_eq_false_iff_not]; first | assumption | omega))) ?_
        refine GD.pure1 (i := 3) rfl (fun _ _ => rv_move rfl) ?_
        refine GD.pureG1 (i := 4) rfl rfl (fun _ _ => rv_field fo_49_2 rfl rfl) ?_
        refine GD.stepG (i := 5) (by kernel_rfl) rfl rfl (ot_val (rv_load ag_24 rfl (by exact Hd.cell (k := 0) rfl rfl)) rfl ⟨.inr fun _ h => h.pk [0], ?_⟩)
        refine GD.pureG1 (i := 6) rfl rfl (fun _ _ => (by exact rv_to (v' := .bool false) (rv_eq64 (b := 0) rfl rfl) (by simp only [Value.bool.injEq, decide_eq_true_eq, decide_eq_false_iff_not]; first | assumption | omega))) ?_
        refine GD.pure1 (i := 7) rfl (fun _ _ => (by exact rv_orF rfl rfl rfl)) ?_
        refine GD.pure1 (i := 8) rfl (fun _ _ => rv_move rfl) ?_
        refine GD.pureG1 (i := 9) rfl rfl (fun _ _ => rv_move rfl) ?_
        refine GD.pureG1 (i := 10) rfl rfl (fun _ _ => (by exact rv_to (v' := .bool true) (rv_gtr rfl rfl) (by simp only [Value.bool.injEq, decide_eq_true_eq, decide_eq_false_iff_not]; first | assumption | omega))) ?_
        refine GD.pureG1 (i := 11) rfl rfl (fun _ _ => rv_move rfl) ?_
        refine GD.pureG1 (i := 12) rfl rfl (fun _ _ => rv_move rfl) ?_
        refine GD.pureG1 (i := 13) rfl rfl (fun _ _ => rv_move rfl) ?_
        refine GD.pureG1 (i := 14) rfl rfl (fun _ _ => rv_to (v' := .int .i64 ((i - 1 : Nat) : Int)) (rv_sub rfl rfl (by omega) (by omega)) (congrArg (Value.int .i64) (by omega))) ?_
        refine GD.pureG1 (i := 15) rfl rfl (fun _ _ => rv_elemJ (q := o + (i - 1) * 3) (i - 1) es_46 rfl rfl rfl hlt1 rfl) ?_
        refine GD.pureG1 (i := 16) rfl rfl (fun _ _ => rv_field fo_49_0 rfl rfl) ?_
        refine GD.pureG1 (i := 18) rfl rfl (fun _ _ => rv_field fo_49_0 rfl rfl) ?_
        refine GD.readG1 (i := 17) rfl rfl (rv_load ag_9 rfl (Hd.cell0 ((hC.fcat bz_len (i - 1) hlt1) 0 _ rfl) (fun h => h))) ?_
        refine GD.stepG (i := 19) (by kernel_rfl) rfl rfl (ot_val (rv_load ag_9 rfl (by exact Hd.cell (k := 0) rfl rfl)) rfl ⟨.inr fun _ h => h.pk [0], ?_⟩)
        refine GD.pureG1 (i := 20) rfl rfl (fun _ _ => rv_geqS rfl rfl) ?_
        refine GD.pureG1 (i := 21) rfl rfl (fun _ _ => (by exact rv_andT rfl rfl rfl)) ?_
        refine GD.pure1 (i := 22) rfl (fun _ _ => (by exact rv_orF rfl rfl rfl)) ?_
        refine GD.done (by kernel_rfl) ?_
        exact GX.cutq () trivial (by repeat (first | exact Sub.nil | refine Sub.cons rfl ?_)) (fun w9 h => by
            exact h)
    refine GX.then ?_
    refine GC.condP rfl (fun c34 => ?_) (fun c34 => ?_)
    · have hpr := not_right hlt c34
      refine GC.seq ?_
      refine GC.reg ?_
      refine GL.val (rv_assign rfl) rfl ?_
      refine GL.nil ?_
      refine GX.then ?_
      refine GC.ret ?_
      refine GX.blk_ret ?_
      refine GX.then_ret ?_
      refine GX.then_ret ?_
      refine GX.blk_ret ?_
      refine GX.then_ret ?_
      refine GX.ret1 rfl (RR.tmp rfl) ?_
      exact fun w9 h => ⟨(), (by rw [decide_eq_false hpr]), by
          have h := h.sel [] rfl rfl
          exact h, trivial⟩
    · have hpr : (okB (bpl l[i]) ∧ (0 < i → nlt (l[i - 1]'(by omega)).1 l[i].1)) := Decidable.byContradiction c34
      refine GC.skip ?_
      refine GX.blk ?_
      refine GX.then ?_
      refine GC.reg ?_
      refine GL.val (rv_add rfl rfl (by omega) (by omega)) rfl ?_
      refine GL.val (rv_move rfl) rfl ?_
      refine GL.nil ?_
      exact GX.round (i + 1) (by omega) ⟨by omega, right_take hlt h1 h2 hpr.1 hpr.2⟩ (by repeat (first | exact Sub.nil | refine Sub.cons rfl ?_)) (fun w9 h => by
          have h := h.sel [] rfl rfl
          exact h)
  · obtain rfl : i = l.length := by omega
    rw [List.take_of_length_le (by rw [List.length_map]; omega)] at h1 h2
    refine GC.exit ?_
    refine GX.then_exit ?_
    refine GX.then_exit ?_
    refine GX.blk_eq ?_
    refine GX.then ?_
    refine GC.seq ?_
    refine GC.reg ?_
    refine GL.val (rv_move rfl) rfl ?_
    refine GL.val (rv_lenSl Try.underlying46 rfl) rfl ?_
    refine GL.val (rv_leq rfl rfl) rfl ?_
    refine GL.val (rv_assign rfl) rfl ?_
    refine GL.nil ?_
    refine GX.then ?_
    refine GC.ret ?_
    refine GX.ret1 rfl (RR.tmp rfl) ?_
    exact fun w9 h => ⟨(), (by rw [decide_eq_decide.2 (show ((l.length : Int) ≤ 256 ↔ rightL (l.map bpl)) from ⟨fun h => ⟨h1, h2, by rw [List.length_map]; omega⟩, fun h => by have := h.2.2; rw [List.length_map] at this; omega⟩)]), by
        exact h, trivial⟩
set_option maxRecDepth 100000 in
set_option maxHeartbeats 1000000 in
theorem copied_c (A : Option Addr) (c : Nat) (l : List BindZ) (w : World) (hR : Has w (efx ((A, c), l))) (hok : eOk ((A, c), l)) (hk : ∀ b ∈ l, b.2.1.length ≤ 1000000) : Calls Try.prog 50 [.slice A l.length c].toArray w fun e w' => ∃ g : EpZ × List Fact, e = .returned (.slice g.1.1.1 g.1.2.length g.1.1.2) ∧ St noB w w' [frzN g.2] ∧ (epl g.1 = l.map bpl ∧ Sbs (efx g.1) g.2 [] ∧ eOk g.1) := by
  refine GC.calls Try.func50 rfl rfl (St.begin _) ?_
  obtain ⟨hok1, hok2, hok9⟩ := hok
  dsimp only at hok1 hok2 hok9
  have hA := hR _ (efx_hd _)
  have hB : ∀ b ∈ l, SlR w b.2.2.1.1 (byts b.2.1) := fun b hb => hR _ (efx_b (e := ((A, c), l)) hb)
  dsimp only at hA
  refine GC.seq ?_
  refine GC.reg ?_
  refine GL.val (rv_assign rfl) rfl ?_
  refine GL.nil ?_
  refine GX.then ?_
  refine GC.seq ?_
  refine GC.reg ?_
  refine GL.val (rv_assign rfl) rfl ?_
  refine GL.nil ?_
  refine GX.then ?_
  refine GC.seq ?_
  refine GC.seq ?_
  refine GC.reg ?_
  refine GL.val (rv_move rfl) rfl ?_
  refine GL.val (rv_lenSl Try.underlying46 rfl) rfl ?_
  refine GL.val (rv_move rfl) rfl ?_
  refine GL.nil ?_
  refine GX.then ?_
  refine GC.block ?_
  refine GC.loopK (γ := Nat × List BindZ × (Option Addr × Nat) × List Fact) [7, 6] [] (fun g Lk => (3, .slice g.2.2.1.1 g.1 g.2.2.1.2) :: (8, .int .i64 (g.1 : Int)) :: Lk) (fun g Fk => .row g.2.2.1.1 g.2.2.1.2 49 3 g.1 (fcat bzc g.2.1) :: frzN g.2.2.2 :: Fk) (fun g => (g.1 ≤ l.length) ∧ (g.2.1.map bpl = (l.map bpl).take g.1) ∧ (Sbs (g.2.1.map bfx) g.2.2.2 []) ∧ (∀ b ∈ g.2.1, bOk b)) (fun g => l.length - g.1) (0, [], (none, 0), []) rfl rfl ⟨Nat.zero_le _, rfl, Sbs.nil _ _, fun b h => by cases h⟩ (by repeat (first | exact Sub.nil | refine Sub.cons rfl ?_)) (fun w9 h => by
      have h := h.frzN0
      have h := h.nilRow 49 3
      exact h) (fun ⟨i, l1, r3, F⟩ ⟨hi, hl1, hs1, ho1⟩ => ?_)
  dsimp only at hi hl1 hs1 ho1 ⊢
  refine GC.seq ?_
  refine GC.reg ?_
  refine GL.val (rv_lss rfl rfl) rfl ?_
  refine GL.nil ?_
  refine GX.then ?_
  refine GC.seq ?_
  refine GC.condP rfl (fun c9 => ?_) (fun c9 => ?_)
  · have hlt : i < l.length := by omega
    obtain ⟨b, o, rfl, hC⟩ := slr_some hA (fcat_ne bz_len (by decide) hlt)
    refine GC.skip ?_
    refine GX.then ?_
    refine GC.seq ?_
    refine GC.block ?_
    refine GC.seq ?_
    refine GC.reg ?_
    refine GL.val (rv_elemJ (q := o + i * 3) i es_46 rfl rfl rfl hlt rfl) rfl ?_
    refine GL.val (rv_loadA ag_49 rfl (Hd.cells0 (hC.fcat bz_len i hlt) (fun h => h)) (by exact sz_49)) rfl ?_
    refine GL.step (ot_alloc (zs := [.string ByteArray.empty, .slice none 0 0, .int .u64 0]) zb_49 rfl rfl fun b5 => ?_)
    refine GL.step (ot_store (k := 0) rfl rfl rfl rfl sz_49 rfl rfl (show repl _ 0 (bzc l[i]) = bzc l[i] from rfl) ?_)
    refine GL.nil ?_
    refine GX.then ?_
    refine GC.draw 12 [0] mo_ ?_
    refine GD.pure1 (i := 0) rfl (fun _ _ => rv_move rfl) ?_
    refine GD.pure1 (i := 1) rfl (fun _ _ => rv_field fo_49_0 rfl rfl) ?_
    refine GD.pure1 (i := 3) rfl (fun _ _ => rv_field fo_49_1 rfl rfl) ?_
    refine GD.pure1 (i := 6) rfl (fun _ _ => rv_field fo_49_2 rfl rfl) ?_
    refine GD.read1 (i := 2) rfl (rv_load ag_9 rfl (by exact Hd.cell (k := 0) rfl rfl)) ?_
    refine GD.read1 (i := 4) rfl (rv_load ag_27 rfl (by exact Hd.cell (k := 0) rfl rfl)) ?_
    refine GD.read1 (i := 7) rfl (rv_load ag_24 rfl (by exact Hd.cell (k := 0) rfl rfl)) ?_
    refine GD.step (i := 5) (by kernel_rfl) rfl (ot_call hb_51 rfl (callOk fun w hh => clone_b l[i].2.2.1.1 _ l[i].2.2.1.2 l[i].2.1 w (hh.rd0n (hB _ (List.getElem_mem hlt))) rfl (by have := hk _ (List.getElem_mem hlt); omega)) rfl fun g17 h17 => ⟨.inr fun _ h => h.pk [1], ?_⟩)
    refine GD.pure1 (i := 8) rfl (fun _ _ => rv_buildS pl_49 zb_49 rfl rfl (by ((simp only [bldL, repl, List.set_cons_zero, List.set_cons_succ, List.getElem?_cons_zero, List.getElem?_cons_succ, Option.getD_some, Value.cells]) <;> rfl))) ?_
    refine GD.step (i := 9) (by kernel_rfl) rfl (ot_buildSlice ei_46 rfl rfl rfl rfl rfl rfl fun b21 => ⟨.inr fun _ h => h.pk [2], ?_⟩)
    refine GD.step (i := 10) (by kernel_rfl) rfl (ot_append (k := 3) (news := bzc (l[i].1, l[i].2.1, g17, l[i].2.2.2)) ei_46 rfl rfl rfl rfl (fun w h => .inr ⟨b21, 0, rfl, Hd.cellsAll (k := 0) rfl w h⟩) rfl (by omega) (by decide) rfl fun A22 c22 z22 => ⟨.inr fun _ h => h.pk [2], ?_⟩)
    refine GD.pure1 (i := 11) rfl (fun _ _ => rv_assign rfl) ?_
    refine GD.done (by kernel_rfl) ?_
    refine GX.blk ?_
    refine GX.then ?_
    refine GC.reg ?_
    refine GL.val (rv_add rfl rfl (by omega) (by omega)) rfl ?_
    refine GL.val (rv_move rfl) rfl ?_
    refine GL.nil ?_
    have hbn : ((l[i].1, l[i].2.1, g17, l[i].2.2.2) : BindZ).1.size < 4611686018427387904 := (hok1 _ (List.getElem_mem hlt)).1
    exact GX.round (i + 1, l1 ++ [(l[i].1, l[i].2.1, g17, l[i].2.2.2)], (A22, c22), [(g17.1, byts l[i].2.1)] ++ F) (by omega) ⟨by omega, by rw [List.map_append, hl1, List.take_succ_eq_append_getElem (by rw [List.length_map]; exact hlt), List.getElem_map]; rfl, by rw [List.map_append]; exact hs1.l.app (Sbs.cons (.inr (.inl (List.mem_cons_self ..))) (Sbs.nil _ _)), fun b hb => (List.mem_append.1 hb).elim (ho1 b) (fun hb => by obtain rfl := List.mem_singleton.1 hb; exact ⟨hbn, h17⟩)⟩ (by repeat (first | exact Sub.nil | refine Sub.cons rfl ?_)) (fun w9 h => by
        have h := h.sel [3, 4, 1] rfl rfl
        have h := h.roFrz (k := 0) rfl
        have h := h.frzNAdd
        have h := h.sel [0, 1] rfl rfl
        rw [fcat_app, fcat_one]
        exact h)
  · obtain rfl : i = l.length := by omega
    rw [List.take_of_length_le (by rw [List.length_map]; omega)] at hl1
    refine GC.fact (p := l.length ≤ r3.2) (fun w9 h => (row_form h (k := 0) rfl).2.1) fun hcap => ?_
    have hll : l1.length = l.length := by have := congrArg List.length hl1; rwa [List.length_map, List.length_map] at this
    refine GC.exit ?_
    refine GX.then_exit ?_
    refine GX.then_exit ?_
    refine GX.blk_eq ?_
    refine GX.then ?_
    refine GC.seq ?_
    refine GC.reg ?_
    refine GL.val (rv_move rfl) rfl ?_
    refine GL.val (rv_assign rfl) rfl ?_
    refine GL.nil ?_
    refine GX.then ?_
    refine GC.ret ?_
    refine GX.ret1 rfl (RR.tmp rfl) ?_
    exact fun w9 h => ⟨((r3, l1), [(r3.1, fcat bzc l1)] ++ F), (by rw [hll]), by
        have h := h.sel [1, 0] rfl rfl
        have h := h.rowFrz (k := 0) rfl
        have h := h.frzNAdd
        exact h, ⟨hl1, Sbs.cons (.inr (.inl (List.mem_cons_self ..))) hs1.l, ho1, by dsimp only; omega, by dsimp only; omega⟩⟩
end Go.Proofs.Ytkifeeiafachpaa
