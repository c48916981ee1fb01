import Derived.Test.YtkifeeiafachpaaJm
set_option linter.unusedVariables false
set_option linter.unusedSimpArgs false
namespace Go.Proofs.Ytkifeeiafachpaa
open Go Go.RowKit Go.Bz
theorem fo_55_0 : fieldOff Try.prog 55 0 = some 0 := by kernel_rfl
theorem hb_17 : hasBody Try.prog 17 = true := by kernel_rfl
theorem hb_22 : hasBody Try.prog 22 = true := by kernel_rfl
theorem hb_36 : hasBody Try.prog 36 = true := by kernel_rfl
theorem hb_37 : hasBody Try.prog 37 = true := by kernel_rfl
theorem sbZ_c (a b : BindZ) (w : World) (ha : SlR w a.2.2.1.1 (byts a.2.1)) (hb : SlR w b.2.2.1.1 (byts b.2.1)) : Calls Try.prog 37 [.agg (bzc a).toArray, .agg (bzc b).toArray].toArray w fun e w' => ∃ _g : Unit, e = .returned (.bool (decide (bpl a = bpl b))) ∧ St noB w w' [] ∧ True := by
  refine (sbind_c a.1 a.2.1 a.2.2.1.1 a.2.2.1.2 a.2.2.2 b.1 b.2.1 b.2.2.1.1 b.2.2.1.2 b.2.2.2 w ha hb).mono fun e w' ⟨u, h1, h2, h3⟩ => ⟨u, ?_, h2, h3⟩
  rw [h1, decide_eq_decide.2 (show (a.1 = b.1 ∧ a.2.2.2 = b.2.2.2 ∧ a.2.1 = b.2.1) ↔ bpl a = bpl b from ?_)]
  unfold bpl
  simp only [Prod.mk.injEq]
  exact ⟨fun ⟨x, y, z⟩ => ⟨x, z, y⟩, fun ⟨x, y, z⟩ => ⟨x, z, y⟩⟩
theorem srZ_c (a b : ReqZ) (w : World) (ha : SlR w a.2.2.2.1.1 (byts a.2.2.1)) (hb : SlR w b.2.2.2.1.1 (byts b.2.2.1)) (qa : qOk a) (qb : qOk b) : Calls Try.prog 36 [.agg (qzc a).toArray, .agg (qzc b).toArray].toArray w fun e w' => ∃ _g : Unit, e = .returned (.bool (decide (rpl a = rpl b))) ∧ St noB w w' [] ∧ True := by
  refine (sreq_c a.1 a.2.1 a.2.2.1 a.2.2.2.1.1 a.2.2.2.1.2 a.2.2.2.2 b.1 b.2.1 b.2.2.1 b.2.2.2.1.1 b.2.2.2.1.2 b.2.2.2.2 w qa.2.2.2 qb.2.2.2 ha hb).mono fun e w' ⟨u, h1, h2, h3⟩ => ⟨u, ?_, h2, h3⟩
  rw [h1, decide_eq_decide.2 (show (a.1 = b.1 ∧ a.2.1 = b.2.1 ∧ a.2.2.1 = b.2.2.1 ∧ a.2.2.2.2 = b.2.2.2.2) ↔ rpl a = rpl b from ?_)]
  unfold rpl
  simp only [Prod.mk.injEq]
theorem map_ne {α β : Type} {f : α → β} {a b : List α} {i : Nat} (ha : i < a.length) (hb : i < b.length) (h : f a[i] ≠ f b[i]) : a.map f ≠ b.map f := fun e => h (by
  have := congrArg (fun l : List β => l[i]?) e
  simpa [ha, hb] using this)
theorem take_s {α β : Type} {f : α → β} {a b : List α} {i : Nat} (ha : i < a.length) (hb : i < b.length) (ht : (a.map f).take i = (b.map f).take i) (h : f a[i] = f b[i]) : (a.map f).take (i + 1) = (b.map f).take (i + 1) := by
  rw [List.take_succ_eq_append_getElem (by rw [List.length_map]; exact ha), List.take_succ_eq_append_getElem (by rw [List.length_map]; exact hb), ht, List.getElem_map, List.getElem_map, h]
instance decDz : DecidableEq Dz := fun a b => decidable_of_iff (a.1 = b.1 ∧ a.2.1 = b.2.1 ∧ a.2.2 = b.2.2) ⟨fun ⟨x, y, z⟩ => Prod.ext x (Prod.ext y z), fun e => by subst e; exact ⟨rfl, rfl, rfl⟩⟩
theorem len_ne {α β : Type} {f : α → β} {a b : List α} (h : a.length ≠ b.length) : a.map f ≠ b.map f := fun e => h (by have := congrArg List.length e; rwa [List.length_map, List.length_map] at this)
set_option maxRecDepth 100000 in
set_option maxHeartbeats 1000000 in
theorem sames_c (a b : (Option Addr × Nat) × List BindZ) (w : World) (ha : Has w (efx a)) (hb : Has w (efx b)) (hn : a.2.length ≤ 1000000) : Calls Try.prog 17 [.slice a.1.1 a.2.length a.1.2, .slice b.1.1 b.2.length b.1.2].toArray w fun e w' => ∃ _g : Unit, e = .returned (.bool (decide (a.2.map bpl = b.2.map bpl))) ∧ St noB w w' [] ∧ True := by
  have hRa : SlR w a.1.1 (fcat bzc a.2) := ha _ (efx_hd a)
  have hRb : SlR w b.1.1 (fcat bzc b.2) := hb _ (efx_hd b)
  refine GC.calls Try.func17 rfl rfl (St.begin _) ?_
  refine GC.seq ?_
  refine GC.reg ?_
  refine GL.val (rv_assign rfl) rfl ?_
  refine GL.nil ?_
  refine GX.then ?_
  refine GC.seq ?_
  refine GC.seq ?_
  refine GC.reg ?_
  refine GL.val (rv_move rfl) rfl ?_
  refine GL.val (rv_lenSl Try.underlying46 rfl) rfl ?_
  refine GL.val (rv_move rfl) rfl ?_
  refine GL.val (rv_lenSl Try.underlying46 rfl) rfl ?_
  refine GL.val (rv_neI rfl rfl) rfl ?_
  refine GL.nil ?_
  refine GX.then ?_
  refine GC.condP rfl (fun c10 => ?_) (fun c10 => ?_)
  · have hne := len_ne (f := bpl) (fun h => c10 (by rw [h]))
    refine GC.seq ?_
    refine GC.reg ?_
    refine GL.val (rv_assign rfl) rfl ?_
    refine GL.nil ?_
    refine GX.then ?_
    refine GC.ret ?_
    refine GX.then_ret ?_
    refine GX.ret1 rfl (RR.tmp rfl) ?_
    exact fun w9 h => ⟨(), (by rw [decide_eq_false hne]), by
        exact h, trivial⟩
  · have hll : a.2.length = b.2.length := by omega
    refine GC.skip ?_
    refine GX.then ?_
    refine GC.seq ?_
    refine GC.seq ?_
    refine GC.reg ?_
    refine GL.val (rv_assign rfl) rfl ?_
    refine GL.nil ?_
    refine GX.then ?_
    refine GC.block ?_
    refine GC.loopK (γ := Nat) [1, 0] [] (fun g Lk => (5, .int .i64 (g : Int)) :: Lk) (fun g Fk => Fk) (fun g => (g ≤ a.2.length) ∧ ((a.2.map bpl).take g = (b.2.map bpl).take g)) (fun g => a.2.length - g) (0) rfl rfl ⟨Nat.zero_le _, rfl⟩ (by repeat (first | exact Sub.nil | refine Sub.cons rfl ?_)) (fun w9 h => by
        exact h) (fun i ⟨hi, ht⟩ => ?_)
    skip
    refine GC.seq ?_
    refine GC.seq ?_
    refine GC.reg ?_
    refine GL.val (rv_move rfl) rfl ?_
    refine GL.val (rv_move rfl) rfl ?_
    refine GL.val (rv_lenSl Try.underlying46 rfl) rfl ?_
    refine GL.val (rv_lss rfl rfl) rfl ?_
    refine GL.nil ?_
    refine GX.then ?_
    refine GC.condP rfl (fun c14 => ?_) (fun c14 => ?_)
    · have hlt : i < a.2.length := by omega
      have hlt2 : i < b.2.length := by omega
      obtain ⟨ba, oa, hAa, hCa⟩ := slr_some hRa (fcat_ne bz_len (by decide) hlt)
      obtain ⟨bb, ob, hAb, hCb⟩ := slr_some hRb (fcat_ne bz_len (by decide) hlt2)
      refine GC.skip ?_
      refine GX.then ?_
      refine GC.seq ?_
      refine GC.block ?_
      refine GC.seq ?_
      refine GC.draw 10 [] mo_ ?_
      refine GD.pure1 (i := 0) rfl (fun _ _ => rv_move rfl) ?_
      refine GD.pure1 (i := 1) rfl (fun _ _ => rv_move rfl) ?_
      refine GD.pure1 (i := 2) rfl (fun _ _ => rv_elemJ (q := oa + i * 3) i es_46 (by rw [hAa]; rfl) rfl rfl hlt rfl) ?_
      refine GD.pure1 (i := 4) rfl (fun _ _ => rv_move rfl) ?_
      refine GD.pure1 (i := 5) rfl (fun _ _ => rv_move rfl) ?_
      refine GD.pure1 (i := 6) rfl (fun _ _ => rv_elemJ (q := ob + i * 3) i es_46 (by rw [hAb]; rfl) rfl rfl hlt2 rfl) ?_
      refine GD.read1 (i := 3) rfl (rv_loadA ag_49 rfl (Hd.cells0 (hCa.fcat bz_len i hlt) (fun h => h)) (by exact sz_49)) ?_
      refine GD.step (i := 7) (by kernel_rfl) rfl (ot_val (rv_loadA ag_49 rfl (Hd.cells0 (hCb.fcat bz_len i hlt2) (fun h => h)) (by exact sz_49)) rfl ⟨.inr fun _ h => h.pk [], ?_⟩)
      refine GD.step (i := 8) (by kernel_rfl) rfl (ot_call hb_37 rfl (callOk fun w hh => sbZ_c a.2[i] b.2[i] w (hh.rd0n (ha _ (efx_b (e := a) (List.getElem_mem hlt)))) (hh.rd0n (hb _ (efx_b (e := b) (List.getElem_mem hlt2))))) rfl fun _ _ => ⟨.inr fun _ h => h.pk [], ?_⟩)
      refine GD.pure1 (i := 9) rfl (fun _ _ => rv_not rfl) ?_
      refine GD.done (by kernel_rfl) ?_
      refine GX.then ?_
      refine GC.cond rfl (fun c26 => ?_) (fun c26 => ?_)
      · have heq : ¬ bpl a.2[i] = bpl b.2[i] := by simpa using c26
        have hne := map_ne (f := bpl) hlt hlt2 heq
        refine GC.seq ?_
        refine GC.reg ?_
        refine GL.val (rv_assign rfl) rfl ?_
        refine GL.nil ?_
        refine GX.then ?_
        refine GC.ret ?_
        refine GX.blk_ret ?_
        refine GX.then_ret ?_
        refine GX.then_ret ?_
        refine GX.blk_ret ?_
        refine GX.then_ret ?_
        refine GX.ret1 rfl (RR.tmp rfl) ?_
        exact fun w9 h => ⟨(), (by rw [decide_eq_false hne]), by
            exact h, trivial⟩
      · have heq : bpl a.2[i] = bpl b.2[i] := by simpa using c26
        refine GC.skip ?_
        refine GX.blk ?_
        refine GX.then ?_
        refine GC.reg ?_
        refine GL.val (rv_move rfl) rfl ?_
        refine GL.val (rv_add rfl rfl (by omega) (by omega)) rfl ?_
        refine GL.val (rv_assign rfl) rfl ?_
        refine GL.nil ?_
        exact GX.round (i + 1) (by omega) ⟨by omega, take_s hlt hlt2 ht heq⟩ (by repeat (first | exact Sub.nil | refine Sub.cons rfl ?_)) (fun w9 h => by
            exact h)
    · obtain rfl : i = a.2.length := by omega
      rw [List.take_of_length_le (by rw [List.length_map]; omega), List.take_of_length_le (by rw [List.length_map]; omega)] at ht
      refine GC.exit ?_
      refine GX.then_exit ?_
      refine GX.then_exit ?_
      refine GX.blk_eq ?_
      refine GX.then ?_
      refine GC.seq ?_
      refine GC.reg ?_
      refine GL.val (rv_assign rfl) rfl ?_
      refine GL.nil ?_
      refine GX.then ?_
      refine GC.ret ?_
      refine GX.ret1 rfl (RR.tmp rfl) ?_
      exact fun w9 h => ⟨(), (by rw [decide_eq_true ht]), by
          exact h, trivial⟩
set_option maxRecDepth 100000 in
set_option maxHeartbeats 1000000 in
theorem samef_c (a b : FndZ) (w : World) (ha : Has w [zfx a]) (hb : Has w [zfx b]) : Calls Try.prog 22 [.agg (fzc a).toArray, .agg (fzc b).toArray].toArray w fun e w' => ∃ _g : Unit, e = .returned (.bool (decide (fpl a = fpl b))) ∧ St noB w w' [] ∧ True := by
  refine GC.calls Try.func22 rfl rfl (St.begin _) ?_
  rw [show decide (fpl a = fpl b) = decide (a.1 = b.1 ∧ a.2.1 = b.2.1 ∧ bpl a.2.2 = bpl b.2.2) from decide_eq_decide.2 (by unfold fpl; simp only [Prod.mk.injEq])]
  refine GC.seq ?_
  refine GC.reg ?_
  refine GL.step (ot_box rfl rfl rfl fun b2 => ?_)
  refine GL.step (ot_box rfl rfl rfl fun b3 => ?_)
  refine GL.val (rv_assign rfl) rfl ?_
  refine GL.nil ?_
  refine GX.then ?_
  refine GC.seq ?_
  refine GC.cutq (γ := Unit) [] [1, 0] (fun g Lk => (4, .bool (decide (a.1 = b.1 ∧ a.2.1 = b.2.1 ∧ bpl a.2.2 = bpl b.2.2))) :: Lk) (fun g Fk => Fk) (fun g => True) rfl rfl ?_ (fun _ _ => ?_)
  · rcases (by by_cases h1 : a.1 = b.1 <;> by_cases h2 : a.2.1 = b.2.1 <;> simp [h1, h2] : (¬ a.1 = b.1) ∨ (a.1 = b.1 ∧ ¬ a.2.1 = b.2.1) ∨ (a.1 = b.1 ∧ a.2.1 = b.2.1)) with h | h | h
    · rw [show decide (a.1 = b.1 ∧ a.2.1 = b.2.1 ∧ bpl a.2.2 = bpl b.2.2) = false from decide_eq_false (fun q => h q.1)]
      refine GC.reg ?_
      refine GL.val (rv_field fo_55_0 rfl rfl) rfl ?_
      refine GL.val (rv_load ag_24 rfl (Hd.cell (k := 1) rfl rfl)) rfl ?_
      refine GL.val (rv_field fo_55_0 rfl rfl) rfl ?_
      refine GL.val (rv_load ag_24 rfl (Hd.cell (k := 0) rfl rfl)) rfl ?_
      refine GL.val ((by exact rv_to (v' := .bool false) (rv_eq64 rfl rfl) (by simp only [Value.bool.injEq, decide_eq_true_eq, decide_eq_false_iff_not]; first | assumption | omega))) rfl ?_
      refine GL.val (rv_move rfl) rfl ?_
      refine GL.skipG rfl rfl ?_
      refine GL.skipG rfl rfl ?_
      refine GL.skipG rfl rfl ?_
      refine GL.skipG rfl rfl ?_
      refine GL.skipG rfl rfl ?_
      refine GL.val ((by exact rv_andF rfl rfl rfl)) rfl ?_
      refine GL.val (rv_move rfl) rfl ?_
      refine GL.skipG rfl rfl ?_
      refine GL.skipG rfl rfl ?_
      refine GL.skipG rfl rfl ?_
      refine GL.skipG rfl rfl ?_
      refine GL.skipG rfl rfl ?_
      refine GL.val ((by exact rv_andF rfl rfl rfl)) rfl ?_
      refine GL.val (rv_assign rfl) rfl ?_
      refine GL.nil ?_
      exact GX.cutq () trivial (by repeat (first | exact Sub.nil | refine Sub.cons rfl ?_)) (fun w9 h => by
          exact h)
    · have h1 := h.1
      have h2 := h.2
      rw [show decide (a.1 = b.1 ∧ a.2.1 = b.2.1 ∧ bpl a.2.2 = bpl b.2.2) = false from decide_eq_false (fun q => h2 q.2.1)]
      refine GC.reg ?_
      refine GL.val (rv_field fo_55_0 rfl rfl) rfl ?_
      refine GL.val (rv_load ag_24 rfl (Hd.cell (k := 1) rfl rfl)) rfl ?_
      refine GL.val (rv_field fo_55_0 rfl rfl) rfl ?_
      refine GL.val (rv_load ag_24 rfl (Hd.cell (k := 0) rfl rfl)) rfl ?_
      refine GL.val ((by exact rv_to (v' := .bool true) (rv_eq64 rfl rfl) (by simp only [Value.bool.injEq, decide_eq_true_eq, decide_eq_false_iff_not]; first | assumption | omega))) rfl ?_
      refine GL.val (rv_move rfl) rfl ?_
      refine GL.valT rfl (rv_field fo_55_1 rfl rfl) rfl ?_
      refine GL.valT rfl (rv_load ag_4 rfl (Hd.cell (k := 1) rfl rfl)) rfl ?_
      refine GL.valT rfl (rv_field fo_55_1 rfl rfl) rfl ?_
      refine GL.valT rfl (rv_load ag_4 rfl (Hd.cell (k := 0) rfl rfl)) rfl ?_
      refine GL.valT rfl ((by exact rv_to (v' := .bool false) (rv_eqB rfl rfl (run_eqBool Try.underlying4)) (by simp only [Value.bool.injEq, decide_eq_true_eq, decide_eq_false_iff_not]; first | assumption | omega))) rfl ?_
      refine GL.val ((by exact rv_andT rfl rfl rfl)) rfl ?_
      refine GL.val (rv_move rfl) rfl ?_
      refine GL.skipG rfl rfl ?_
      refine GL.skipG rfl rfl ?_
      refine GL.skipG rfl rfl ?_
      refine GL.skipG rfl rfl ?_
      refine GL.skipG rfl rfl ?_
      refine GL.val ((by exact rv_andF rfl rfl rfl)) rfl ?_
      refine GL.val (rv_assign rfl) rfl ?_
      refine GL.nil ?_
      exact GX.cutq () trivial (by repeat (first | exact Sub.nil | refine Sub.cons rfl ?_)) (fun w9 h => by
          exact h)
    · have h1 := h.1
      have h2 := h.2
      rw [show decide (a.1 = b.1 ∧ a.2.1 = b.2.1 ∧ bpl a.2.2 = bpl b.2.2) = decide (bpl a.2.2 = bpl b.2.2) from decide_eq_decide.2 ⟨fun q => q.2.2, fun q => ⟨h1, h2, q⟩⟩]
      refine GC.reg ?_
      refine GL.val (rv_field fo_55_0 rfl rfl) rfl ?_
      refine GL.val (rv_load ag_24 rfl (Hd.cell (k := 1) rfl rfl)) rfl ?_
      refine GL.val (rv_field fo_55_0 rfl rfl) rfl ?_
      refine GL.val (rv_load ag_24 rfl (Hd.cell (k := 0) rfl rfl)) rfl ?_
      refine GL.val ((by exact rv_to (v' := .bool true) (rv_eq64 rfl rfl) (by simp only [Value.bool.injEq, decide_eq_true_eq, decide_eq_false_iff_not]; first | assumption | omega))) rfl ?_
      refine GL.val (rv_move rfl) rfl ?_
      refine GL.valT rfl (rv_field fo_55_1 rfl rfl) rfl ?_
      refine GL.valT rfl (rv_load ag_4 rfl (Hd.cell (k := 1) rfl rfl)) rfl ?_
      refine GL.valT rfl (rv_field fo_55_1 rfl rfl) rfl ?_
      refine GL.valT rfl (rv_load ag_4 rfl (Hd.cell (k := 0) rfl rfl)) rfl ?_
      refine GL.valT rfl ((by exact rv_to (v' := .bool true) (rv_eqB rfl rfl (run_eqBool Try.underlying4)) (by simp only [Value.bool.injEq, decide_eq_true_eq, decide_eq_false_iff_not]; first | assumption | omega))) rfl ?_
      refine GL.val ((by exact rv_andT rfl rfl rfl)) rfl ?_
      refine GL.val (rv_move rfl) rfl ?_
      refine GL.valT rfl (rv_field fo_55_2 rfl rfl) rfl ?_
      refine GL.valT rfl (rv_loadA ag_49 rfl (Hd.cells (k := 1) rfl (us := bzc a.2.2) rfl) (by exact sz_49)) rfl ?_
      refine GL.valT rfl (rv_field fo_55_2 rfl rfl) rfl ?_
      refine GL.valT rfl (rv_loadA ag_49 rfl (Hd.cells (k := 0) rfl (us := bzc b.2.2) rfl) (by exact sz_49)) rfl ?_
      refine GL.stepG rfl (ot_call hb_37 rfl (callOk fun w hh => sbZ_c a.2.2 b.2.2 w (hh.rd0n (ha _ (List.mem_singleton.2 rfl))) (hh.rd0n (hb _ (List.mem_singleton.2 rfl)))) rfl fun _ _ => ?_)
      refine GL.val ((by exact rv_andT rfl rfl rfl)) rfl ?_
      refine GL.val (rv_assign rfl) rfl ?_
      refine GL.nil ?_
      exact GX.cutq () trivial (by repeat (first | exact Sub.nil | refine Sub.cons rfl ?_)) (fun w9 h => by
          exact h)
  refine GX.then ?_
  refine GC.ret ?_
  refine GX.ret1 rfl (RR.tmp rfl) ?_
  exact fun w9 h => ⟨(), rfl, by
      have h := h.sel [] rfl rfl
      exact h, trivial⟩
set_option maxRecDepth 100000 in
set_option maxHeartbeats 1000000 in
theorem samea_c (a b : (Option Addr × Nat) × List FndZ) (w : World) (ha : Has w (ffx a)) (hb : Has w (ffx b)) (hn : a.2.length ≤ 1000000) : Calls Try.prog 34 [.slice a.1.1 a.2.length a.1.2, .slice b.1.1 b.2.length b.1.2].toArray w fun e w' => ∃ _g : Unit, e = .returned (.bool (decide (a.2.map fpl = b.2.map fpl))) ∧ St noB w w' [] ∧ True := by
  have hRa : SlR w a.1.1 (fcat fzc a.2) := ha _ (List.mem_cons_self ..)
  have hRb : SlR w b.1.1 (fcat fzc b.2) := hb _ (List.mem_cons_self ..)
  refine GC.calls Try.func34 rfl rfl (St.begin _) ?_
  refine GC.seq ?_
  refine GC.reg ?_
  refine GL.val (rv_assign rfl) rfl ?_
  refine GL.nil ?_
  refine GX.then ?_
  refine GC.seq ?_
  refine GC.seq ?_
  refine GC.reg ?_
  refine GL.val (rv_move rfl) rfl ?_
  refine GL.val (rv_lenSl Try.underlying70 rfl) rfl ?_
  refine GL.val (rv_move rfl) rfl ?_
  refine GL.val (rv_lenSl Try.underlying70 rfl) rfl ?_
  refine GL.val (rv_neI rfl rfl) rfl ?_
  refine GL.nil ?_
  refine GX.then ?_
  refine GC.condP rfl (fun c10 => ?_) (fun c10 => ?_)
  · have hne := len_ne (f := fpl) (fun h => c10 (by rw [h]))
    refine GC.seq ?_
    refine GC.reg ?_
    refine GL.val (rv_assign rfl) rfl ?_
    refine GL.nil ?_
    refine GX.then ?_
    refine GC.ret ?_
    refine GX.then_ret ?_
    refine GX.ret1 rfl (RR.tmp rfl) ?_
    exact fun w9 h => ⟨(), (by rw [decide_eq_false hne]), by
        exact h, trivial⟩
  · have hll : a.2.length = b.2.length := by omega
    refine GC.skip ?_
    refine GX.then ?_
    refine GC.seq ?_
    refine GC.seq ?_
    refine GC.reg ?_
    refine GL.val (rv_assign rfl) rfl ?_
    refine GL.nil ?_
    refine GX.then ?_
    refine GC.block ?_
    refine GC.loopK (γ := Nat) [1, 0] [] (fun g Lk => (5, .int .i64 (g : Int)) :: Lk) (fun g Fk => Fk) (fun g => (g ≤ a.2.length) ∧ ((a.2.map fpl).take g = (b.2.map fpl).take g)) (fun g => a.2.length - g) (0) rfl rfl ⟨Nat.zero_le _, rfl⟩ (by repeat (first | exact Sub.nil | refine Sub.cons rfl ?_)) (fun w9 h => by
        exact h) (fun i ⟨hi, ht⟩ => ?_)
    skip
    refine GC.seq ?_
    refine GC.seq ?_
    refine GC.reg ?_
    refine GL.val (rv_move rfl) rfl ?_
    refine GL.val (rv_move rfl) rfl ?_
    refine GL.val (rv_lenSl Try.underlying70 rfl) rfl ?_
    refine GL.val (rv_lss rfl rfl) rfl ?_
    refine GL.nil ?_
    refine GX.then ?_
    refine GC.condP rfl (fun c14 => ?_) (fun c14 => ?_)
    · have hlt : i < a.2.length := by omega
      have hlt2 : i < b.2.length := by omega
      obtain ⟨ba, oa, hAa, hCa⟩ := slr_some hRa (fcat_ne fz_len (by decide) hlt)
      obtain ⟨bb, ob, hAb, hCb⟩ := slr_some hRb (fcat_ne fz_len (by decide) hlt2)
      refine GC.skip ?_
      refine GX.then ?_
      refine GC.seq ?_
      refine GC.block ?_
      refine GC.seq ?_
      refine GC.draw 10 [] mo_ ?_
      refine GD.pure1 (i := 0) rfl (fun _ _ => rv_move rfl) ?_
      refine GD.pure1 (i := 1) rfl (fun _ _ => rv_move rfl) ?_
      refine GD.pure1 (i := 2) rfl (fun _ _ => rv_elemJ (q := oa + i * 5) i es_70 (by rw [hAa]; rfl) rfl rfl hlt rfl) ?_
      refine GD.pure1 (i := 4) rfl (fun _ _ => rv_move rfl) ?_
      refine GD.pure1 (i := 5) rfl (fun _ _ => rv_move rfl) ?_
      refine GD.pure1 (i := 6) rfl (fun _ _ => rv_elemJ (q := ob + i * 5) i es_70 (by rw [hAb]; rfl) rfl rfl hlt2 rfl) ?_
      refine GD.read1 (i := 3) rfl (rv_loadA ag_55 rfl (Hd.cells0 (hCa.fcat fz_len i hlt) (fun h => h)) (by exact sz_55)) ?_
      refine GD.step (i := 7) (by kernel_rfl) rfl (ot_val (rv_loadA ag_55 rfl (Hd.cells0 (hCb.fcat fz_len i hlt2) (fun h => h)) (by exact sz_55)) rfl ⟨.inr fun _ h => h.pk [], ?_⟩)
      refine GD.step (i := 8) (by kernel_rfl) rfl (ot_call hb_22 rfl (callOk fun w hh => samef_c a.2[i] b.2[i] w (fun f hf => by obtain rfl := List.mem_singleton.1 hf; exact hh.rd0n (ha _ (List.mem_cons_of_mem _ (List.mem_map_of_mem (List.getElem_mem hlt))))) (fun f hf => by obtain rfl := List.mem_singleton.1 hf; exact hh.rd0n (hb _ (List.mem_cons_of_mem _ (List.mem_map_of_mem (List.getElem_mem hlt2)))))) rfl fun _ _ => ⟨.inr fun _ h => h.pk [], ?_⟩)
      refine GD.pure1 (i := 9) rfl (fun _ _ => rv_not rfl) ?_
      refine GD.done (by kernel_rfl) ?_
      refine GX.then ?_
      refine GC.cond rfl (fun c26 => ?_) (fun c26 => ?_)
      · have heq : ¬ fpl a.2[i] = fpl b.2[i] := by simpa using c26
        have hne := map_ne (f := fpl) hlt hlt2 heq
        refine GC.seq ?_
        refine GC.reg ?_
        refine GL.val (rv_assign rfl) rfl ?_
        refine GL.nil ?_
        refine GX.then ?_
        refine GC.ret ?_
        refine GX.blk_ret ?_
        refine GX.then_ret ?_
        refine GX.then_ret ?_
        refine GX.blk_ret ?_
        refine GX.then_ret ?_
        refine GX.ret1 rfl (RR.tmp rfl) ?_
        exact fun w9 h => ⟨(), (by rw [decide_eq_false hne]), by
            exact h, trivial⟩
      · have heq : fpl a.2[i] = fpl b.2[i] := by simpa using c26
        refine GC.skip ?_
        refine GX.blk ?_
        refine GX.then ?_
        refine GC.reg ?_
        refine GL.val (rv_move rfl) rfl ?_
        refine GL.val (rv_add rfl rfl (by omega) (by omega)) rfl ?_
        refine GL.val (rv_assign rfl) rfl ?_
        refine GL.nil ?_
        exact GX.round (i + 1) (by omega) ⟨by omega, take_s hlt hlt2 ht heq⟩ (by repeat (first | exact Sub.nil | refine Sub.cons rfl ?_)) (fun w9 h => by
            exact h)
    · obtain rfl : i = a.2.length := by omega
      rw [List.take_of_length_le (by rw [List.length_map]; omega), List.take_of_length_le (by rw [List.length_map]; omega)] at ht
      refine GC.exit ?_
      refine GX.then_exit ?_
      refine GX.then_exit ?_
      refine GX.blk_eq ?_
      refine GX.then ?_
      refine GC.seq ?_
      refine GC.reg ?_
      refine GL.val (rv_assign rfl) rfl ?_
      refine GL.nil ?_
      refine GX.then ?_
      refine GC.ret ?_
      refine GX.ret1 rfl (RR.tmp rfl) ?_
      exact fun w9 h => ⟨(), (by rw [decide_eq_true ht]), by
          exact h, trivial⟩
set_option maxRecDepth 100000 in
set_option maxHeartbeats 1000000 in
theorem same_dc (a b : DirZ) (w : World) (ha : Has w (dfx a)) (hb : Has w (dfx b)) (hoka : dOk a) (hokb : dOk b) : Calls Try.prog 16 [.agg (dcell a).toArray, .agg (dcell b).toArray].toArray w fun e w' => ∃ _g : Unit, e = .returned (.bool (decide (dpl a = dpl b))) ∧ St noB w w' [] ∧ True := by
  refine GC.calls Try.func16 rfl rfl (St.begin _) ?_
  obtain ⟨ka1, ka2, ka3, ka4⟩ := id hoka
  obtain ⟨kb1, kb2, kb3, kb4⟩ := id hokb
  have hpl : dpl a = dpl b ↔ (a.1.2.map epl = b.1.2.map epl ∧ a.2.1.2.map rpl = b.2.1.2.map rpl ∧ a.2.2 = b.2.2) := by unfold dpl; simp only [Prod.mk.injEq]
  refine GC.seq ?_
  refine GC.reg ?_
  refine GL.step (ot_box rfl rfl rfl fun b2 => ?_)
  refine GL.step (ot_box rfl rfl rfl fun b3 => ?_)
  refine GL.val (rv_assign rfl) rfl ?_
  refine GL.nil ?_
  refine GX.then ?_
  refine GC.seq ?_
  refine GC.seq ?_
  refine GC.cutq (γ := Unit) [3, 2] [1, 0] (fun g Lk => (29, .bool (decide (a.1.2.length ≠ b.1.2.length ∨ a.2.1.2.length ≠ b.2.1.2.length ∨ a.2.2 ≠ b.2.2))) :: Lk) (fun g Fk => Fk) (fun g => True) rfl rfl ?_ (fun _ _ => ?_)
  · rcases (by by_cases h1 : a.1.2.length = b.1.2.length <;> by_cases h2 : a.2.1.2.length = b.2.1.2.length <;> by_cases h3 : a.2.2 = b.2.2 <;> simp [h1, h2, h3] : (a.1.2.length ≠ b.1.2.length) ∨ (a.1.2.length = b.1.2.length ∧ a.2.1.2.length ≠ b.2.1.2.length) ∨ (a.1.2.length = b.1.2.length ∧ a.2.1.2.length = b.2.1.2.length ∧ a.2.2 ≠ b.2.2) ∨ (a.1.2.length = b.1.2.length ∧ a.2.1.2.length = b.2.1.2.length ∧ a.2.2 = b.2.2)) with h | h | h | h
    · rw [show decide (a.1.2.length ≠ b.1.2.length ∨ a.2.1.2.length ≠ b.2.1.2.length ∨ a.2.2 ≠ b.2.2) = true from decide_eq_true (by exact .inl h)]
      refine GC.reg ?_
      refine GL.val (rv_field fo_26_0 rfl rfl) rfl ?_
      refine GL.val (rv_load ag_22 rfl (Hd.cell (k := 1) rfl rfl)) rfl ?_
      refine GL.val (rv_lenSl Try.underlying22 rfl) rfl ?_
      refine GL.val (rv_field fo_26_0 rfl rfl) rfl ?_
      refine GL.val (rv_load ag_22 rfl (Hd.cell (k := 0) rfl rfl)) rfl ?_
      refine GL.val (rv_lenSl Try.underlying22 rfl) rfl ?_
      refine GL.val ((by exact rv_to (v' := .bool true) (rv_neI rfl rfl) (by simp only [Value.bool.injEq, decide_eq_true_eq, decide_eq_false_iff_not]; first | assumption | omega))) rfl ?_
      refine GL.val (rv_move rfl) rfl ?_
      refine GL.skipG rfl rfl ?_
      refine GL.skipG rfl rfl ?_
      refine GL.skipG rfl rfl ?_
      refine GL.skipG rfl rfl ?_
      refine GL.skipG rfl rfl ?_
      refine GL.skipG rfl rfl ?_
      refine GL.skipG rfl rfl ?_
      refine GL.val ((by exact rv_orT rfl rfl rfl)) rfl ?_
      refine GL.val (rv_move rfl) rfl ?_
      refine GL.skipG rfl rfl ?_
      refine GL.skipG rfl rfl ?_
      refine GL.skipG rfl rfl ?_
      refine GL.skipG rfl rfl ?_
      refine GL.skipG rfl rfl ?_
      refine GL.val ((by exact rv_orT rfl rfl rfl)) rfl ?_
      refine GL.nil ?_
      exact GX.cutq () trivial (by repeat (first | exact Sub.nil | refine Sub.cons rfl ?_)) (fun w9 h => by
          exact h)
    · rw [show decide (a.1.2.length ≠ b.1.2.length ∨ a.2.1.2.length ≠ b.2.1.2.length ∨ a.2.2 ≠ b.2.2) = true from decide_eq_true (by exact .inr (.inl h.2))]
      obtain ⟨h1, h2⟩ := h
      have h2 : ¬ (a.2.1.2.length : Int) = b.2.1.2.length := by omega
      refine GC.reg ?_
      refine GL.val (rv_field fo_26_0 rfl rfl) rfl ?_
      refine GL.val (rv_load ag_22 rfl (Hd.cell (k := 1) rfl rfl)) rfl ?_
      refine GL.val (rv_lenSl Try.underlying22 rfl) rfl ?_
      refine GL.val (rv_field fo_26_0 rfl rfl) rfl ?_
      refine GL.val (rv_load ag_22 rfl (Hd.cell (k := 0) rfl rfl)) rfl ?_
      refine GL.val (rv_lenSl Try.underlying22 rfl) rfl ?_
      refine GL.val ((by exact rv_to (v' := .bool false) (rv_neI rfl rfl) (by simp only [Value.bool.injEq, decide_eq_true_eq, decide_eq_false_iff_not]; first | assumption | omega))) rfl ?_
      refine GL.val (rv_move rfl) rfl ?_
      refine GL.valT rfl (rv_field fo_26_1 rfl rfl) rfl ?_
      refine GL.valT rfl (rv_load ag_23 rfl (Hd.cell (k := 1) rfl rfl)) rfl ?_
      refine GL.valT rfl (rv_lenSl Try.underlying23 rfl) rfl ?_
      refine GL.valT rfl (rv_field fo_26_1 rfl rfl) rfl ?_
      refine GL.valT rfl (rv_load ag_23 rfl (Hd.cell (k := 0) rfl rfl)) rfl ?_
      refine GL.valT rfl (rv_lenSl Try.underlying23 rfl) rfl ?_
      refine GL.valT rfl ((by exact rv_to (v' := .bool true) (rv_neI rfl rfl) (by simp only [Value.bool.injEq, decide_eq_true_eq, decide_eq_false_iff_not]; first | assumption | omega))) rfl ?_
      refine GL.val ((by exact rv_orF rfl rfl rfl)) rfl ?_
      refine GL.val (rv_move rfl) rfl ?_
      refine GL.skipG rfl rfl ?_
      refine GL.skipG rfl rfl ?_
      refine GL.skipG rfl rfl ?_
      refine GL.skipG rfl rfl ?_
      refine GL.skipG rfl rfl ?_
      refine GL.val ((by exact rv_orT rfl rfl rfl)) rfl ?_
      refine GL.nil ?_
      exact GX.cutq () trivial (by repeat (first | exact Sub.nil | refine Sub.cons rfl ?_)) (fun w9 h => by
          exact h)
    · rw [show decide (a.1.2.length ≠ b.1.2.length ∨ a.2.1.2.length ≠ b.2.1.2.length ∨ a.2.2 ≠ b.2.2) = true from decide_eq_true (by exact .inr (.inr h.2.2))]
      obtain ⟨h1, h2, h3⟩ := h
      refine GC.reg ?_
      refine GL.val (rv_field fo_26_0 rfl rfl) rfl ?_
      refine GL.val (rv_load ag_22 rfl (Hd.cell (k := 1) rfl rfl)) rfl ?_
      refine GL.val (rv_lenSl Try.underlying22 rfl) rfl ?_
      refine GL.val (rv_field fo_26_0 rfl rfl) rfl ?_
      refine GL.val (rv_load ag_22 rfl (Hd.cell (k := 0) rfl rfl)) rfl ?_
      refine GL.val (rv_lenSl Try.underlying22 rfl) rfl ?_
      refine GL.val ((by exact rv_to (v' := .bool false) (rv_neI rfl rfl) (by simp only [Value.bool.injEq, decide_eq_true_eq, decide_eq_false_iff_not]; first | assumption | omega))) rfl ?_
      refine GL.val (rv_move rfl) rfl ?_
      refine GL.valT rfl (rv_field fo_26_1 rfl rfl) rfl ?_
      refine GL.valT rfl (rv_load ag_23 rfl (Hd.cell (k := 1) rfl rfl)) rfl ?_
      refine GL.valT rfl (rv_lenSl Try.underlying23 rfl) rfl ?_
      refine GL.valT rfl (rv_field fo_26_1 rfl rfl) rfl ?_
      refine GL.valT rfl (rv_load ag_23 rfl (Hd.cell (k := 0) rfl rfl)) rfl ?_
      refine GL.valT rfl (rv_lenSl Try.underlying23 rfl) rfl ?_
      refine GL.valT rfl ((by exact rv_to (v' := .bool false) (rv_neI rfl rfl) (by simp only [Value.bool.injEq, decide_eq_true_eq, decide_eq_false_iff_not]; first | assumption | omega))) rfl ?_
      refine GL.val ((by exact rv_orF rfl rfl rfl)) rfl ?_
      refine GL.val (rv_move rfl) rfl ?_
      refine GL.valT rfl (rv_field fo_26_2 rfl rfl) rfl ?_
      refine GL.valT rfl (rv_load ag_24 rfl (Hd.cell (k := 1) rfl rfl)) rfl ?_
      refine GL.valT rfl (rv_field fo_26_2 rfl rfl) rfl ?_
      refine GL.valT rfl (rv_load ag_24 rfl (Hd.cell (k := 0) rfl rfl)) rfl ?_
      refine GL.valT rfl ((by exact rv_to (v' := .bool true) (rv_ne64 rfl rfl) (congrArg Value.bool (decide_eq_true h3)))) rfl ?_
      refine GL.val ((by exact rv_orF rfl rfl rfl)) rfl ?_
      refine GL.nil ?_
      exact GX.cutq () trivial (by repeat (first | exact Sub.nil | refine Sub.cons rfl ?_)) (fun w9 h => by
          exact h)
    · rw [show decide (a.1.2.length ≠ b.1.2.length ∨ a.2.1.2.length ≠ b.2.1.2.length ∨ a.2.2 ≠ b.2.2) = false from decide_eq_false (fun q => by rcases q with q | q | q; exact q h.1; exact q h.2.1; exact q h.2.2)]
      obtain ⟨h1, h2, h3⟩ := h
      refine GC.reg ?_
      refine GL.val (rv_field fo_26_0 rfl rfl) rfl ?_
      refine GL.val (rv_load ag_22 rfl (Hd.cell (k := 1) rfl rfl)) rfl ?_
      refine GL.val (rv_lenSl Try.underlying22 rfl) rfl ?_
      refine GL.val (rv_field fo_26_0 rfl rfl) rfl ?_
      refine GL.val (rv_load ag_22 rfl (Hd.cell (k := 0) rfl rfl)) rfl ?_
      refine GL.val (rv_lenSl Try.underlying22 rfl) rfl ?_
      refine GL.val ((by exact rv_to (v' := .bool false) (rv_neI rfl rfl) (by simp only [Value.bool.injEq, decide_eq_true_eq, decide_eq_false_iff_not]; first | assumption | omega))) rfl ?_
      refine GL.val (rv_move rfl) rfl ?_
      refine GL.valT rfl (rv_field fo_26_1 rfl rfl) rfl ?_
      refine GL.valT rfl (rv_load ag_23 rfl (Hd.cell (k := 1) rfl rfl)) rfl ?_
      refine GL.valT rfl (rv_lenSl Try.underlying23 rfl) rfl ?_
      refine GL.valT rfl (rv_field fo_26_1 rfl rfl) rfl ?_
      refine GL.valT rfl (rv_load ag_23 rfl (Hd.cell (k := 0) rfl rfl)) rfl ?_
      refine GL.valT rfl (rv_lenSl Try.underlying23 rfl) rfl ?_
      refine GL.valT rfl ((by exact rv_to (v' := .bool false) (rv_neI rfl rfl) (by simp only [Value.bool.injEq, decide_eq_true_eq, decide_eq_false_iff_not]; first | assumption | omega))) rfl ?_
      refine GL.val ((by exact rv_orF rfl rfl rfl)) rfl ?_
      refine GL.val (rv_move rfl) rfl ?_
      refine GL.valT rfl (rv_field fo_26_2 rfl rfl) rfl ?_
      refine GL.valT rfl (rv_load ag_24 rfl (Hd.cell (k := 1) rfl rfl)) rfl ?_
      refine GL.valT rfl (rv_field fo_26_2 rfl rfl) rfl ?_
      refine GL.valT rfl (rv_load ag_24 rfl (Hd.cell (k := 0) rfl rfl)) rfl ?_
      refine GL.valT rfl ((by exact rv_to (v' := .bool false) (rv_ne64 rfl rfl) (congrArg Value.bool (decide_eq_false (fun q => q h3))))) rfl ?_
      refine GL.val ((by exact rv_orF rfl rfl rfl)) rfl ?_
      refine GL.nil ?_
      exact GX.cutq () trivial (by repeat (first | exact Sub.nil | refine Sub.cons rfl ?_)) (fun w9 h => by
          exact h)
  refine GX.then ?_
  refine GC.condP rfl (fun c29 => ?_) (fun c29 => ?_)
  · have hne : ¬ dpl a = dpl b := fun q => by obtain ⟨q1, q2, q3⟩ := hpl.1 q; rcases c29 with h | h | h; exact len_ne h q1; exact len_ne h q2; exact h q3
    refine GC.seq ?_
    refine GC.reg ?_
    refine GL.val (rv_assign rfl) rfl ?_
    refine GL.nil ?_
    refine GX.then ?_
    refine GC.ret ?_
    refine GX.then_ret ?_
    refine GX.ret1 rfl (RR.tmp rfl) ?_
    exact fun w9 h => ⟨(), (by rw [decide_eq_false hne]), by
        have h := h.sel [] rfl rfl
        exact h, trivial⟩
  · obtain ⟨hl1, hl2, hl3⟩ : a.1.2.length = b.1.2.length ∧ a.2.1.2.length = b.2.1.2.length ∧ a.2.2 = b.2.2 := ⟨Decidable.byContradiction fun h => c29 (.inl h), Decidable.byContradiction fun h => c29 (.inr (.inl h)), Decidable.byContradiction fun h => c29 (.inr (.inr h))⟩
    refine GC.skip ?_
    refine GX.then ?_
    refine GC.seq ?_
    refine GC.seq ?_
    refine GC.reg ?_
    refine GL.val (rv_assign rfl) rfl ?_
    refine GL.nil ?_
    refine GX.then ?_
    refine GC.block ?_
    refine GC.loopK (γ := Nat) [3, 2] [1, 0] (fun g Lk => (5, .int .i64 (g : Int)) :: Lk) (fun g Fk => Fk) (fun g => (g ≤ a.1.2.length) ∧ ((a.1.2.map epl).take g = (b.1.2.map epl).take g)) (fun g => a.1.2.length - g) (0) rfl rfl ⟨Nat.zero_le _, rfl⟩ (by repeat (first | exact Sub.nil | refine Sub.cons rfl ?_)) (fun w9 h => by
        exact h) (fun i ⟨hi, ht⟩ => ?_)
    skip
    refine GC.seq ?_
    refine GC.seq ?_
    refine GC.reg ?_
    refine GL.val (rv_move rfl) rfl ?_
    refine GL.val (rv_field fo_26_0 rfl rfl) rfl ?_
    refine GL.val (rv_load ag_22 rfl (Hd.cell (k := 1) rfl rfl)) rfl ?_
    refine GL.val (rv_lenSl Try.underlying22 rfl) rfl ?_
    refine GL.val (rv_lss rfl rfl) rfl ?_
    refine GL.nil ?_
    refine GX.then ?_
    refine GC.condP rfl (fun c34 => ?_) (fun c34 => ?_)
    · have hlt : i < a.1.2.length := by omega
      have hlt2 : i < b.1.2.length := by omega
      obtain ⟨ba, oa, hAa, hCa⟩ := slr_some (ha _ (dfx_e a)) (fcat_ne ec_len (by decide) hlt)
      replace hAa : a.1.1.1 = some ⟨ba, oa, none⟩ := hAa
      replace hCa : Cells w ba oa (fcat ecell a.1.2) := hCa
      obtain ⟨bb, ob, hAb, hCb⟩ := slr_some (hb _ (dfx_e b)) (fcat_ne ec_len (by decide) hlt2)
      replace hAb : b.1.1.1 = some ⟨bb, ob, none⟩ := hAb
      replace hCb : Cells w bb ob (fcat ecell b.1.2) := hCb
      refine GC.skip ?_
      refine GX.then ?_
      refine GC.seq ?_
      refine GC.block ?_
      refine GC.seq ?_
      refine GC.draw 12 [0, 1] mo_ ?_
      refine GD.pure1 (i := 0) rfl (fun _ _ => rv_field fo_26_0 rfl rfl) ?_
      refine GD.pure1 (i := 2) rfl (fun _ _ => rv_move rfl) ?_
      refine GD.pure1 (i := 5) rfl (fun _ _ => rv_field fo_26_0 rfl rfl) ?_
      refine GD.pure1 (i := 7) rfl (fun _ _ => rv_move rfl) ?_
      refine GD.read1 (i := 1) rfl (rv_load ag_22 rfl (Hd.cell (k := 1) rfl rfl)) ?_
      refine GD.pure1 (i := 3) rfl (fun _ _ => rv_elemJ (q := oa + i * 1) i es_22 (by rw [hAa]; rfl) rfl rfl hlt rfl) ?_
      refine GD.read1 (i := 4) rfl (rv_load ag_46 rfl (Hd.cell0 ((hCa.fcat ec_len i hlt) 0 _ rfl) (fun h => h))) ?_
      refine GD.step (i := 6) (by kernel_rfl) rfl (ot_val (rv_load ag_22 rfl (Hd.cell (k := 0) rfl rfl)) rfl ⟨.inr fun _ h => h.pk [0, 1], ?_⟩)
      refine GD.pure1 (i := 8) rfl (fun _ _ => rv_elemJ (q := ob + i * 1) i es_22 (by rw [hAb]; rfl) rfl rfl hlt2 rfl) ?_
      refine GD.step (i := 9) (by kernel_rfl) rfl (ot_val (rv_load ag_46 rfl (Hd.cell0 ((hCb.fcat ec_len i hlt2) 0 _ rfl) (fun h => h))) rfl ⟨.inr fun _ h => h.pk [0, 1], ?_⟩)
      refine GD.step (i := 10) (by kernel_rfl) rfl (ot_call hb_17 rfl (callOk fun w hh => sames_c a.1.2[i] b.1.2[i] w (Has.lift (l := efx a.1.2[i]) (fun f hf => ha f (dfx_ep (List.getElem_mem hlt) f hf)) hh) (Has.lift (l := efx b.1.2[i]) (fun f hf => hb f (dfx_ep (List.getElem_mem hlt2) f hf)) hh) (ka1 _ (List.getElem_mem hlt)).2.1) rfl fun _ _ => ⟨.inr fun _ h => h.pk [0, 1], ?_⟩)
      refine GD.pure1 (i := 11) rfl (fun _ _ => rv_not rfl) ?_
      refine GD.done (by kernel_rfl) ?_
      refine GX.then ?_
      refine GC.cond rfl (fun c48 => ?_) (fun c48 => ?_)
      · have heq : ¬ epl a.1.2[i] = epl b.1.2[i] := by change ¬ List.map bpl a.1.2[i].2 = List.map bpl b.1.2[i].2; simpa using c48
        have hne : ¬ dpl a = dpl b := fun q => map_ne hlt hlt2 heq (hpl.1 q).1
        refine GC.seq ?_
        refine GC.reg ?_
        refine GL.val (rv_assign rfl) rfl ?_
        refine GL.nil ?_
        refine GX.then ?_
        refine GC.ret ?_
        refine GX.blk_ret ?_
        refine GX.then_ret ?_
        refine GX.then_ret ?_
        refine GX.blk_ret ?_
        refine GX.then_ret ?_
        refine GX.ret1 rfl (RR.tmp rfl) ?_
        exact fun w9 h => ⟨(), (by rw [decide_eq_false hne]), by
            have h := h.sel [] rfl rfl
            exact h, trivial⟩
      · have heq : epl a.1.2[i] = epl b.1.2[i] := by change List.map bpl a.1.2[i].2 = List.map bpl b.1.2[i].2; simpa using c48
        refine GC.skip ?_
        refine GX.blk ?_
        refine GX.then ?_
        refine GC.reg ?_
        refine GL.val (rv_move rfl) rfl ?_
        refine GL.val (rv_add rfl rfl (by omega) (by omega)) rfl ?_
        refine GL.val (rv_assign rfl) rfl ?_
        refine GL.nil ?_
        exact GX.round (i + 1) (by omega) ⟨by omega, take_s hlt hlt2 ht heq⟩ (by repeat (first | exact Sub.nil | refine Sub.cons rfl ?_)) (fun w9 h => by
            exact h)
    · obtain rfl : i = a.1.2.length := by omega
      rw [List.take_of_length_le (by rw [List.length_map]; omega), List.take_of_length_le (by rw [List.length_map]; omega)] at ht
      refine GC.exit ?_
      refine GX.then_exit ?_
      refine GX.then_exit ?_
      refine GX.blk_eq ?_
      refine GX.then ?_
      refine GC.seq ?_
      refine GC.seq ?_
      refine GC.reg ?_
      refine GL.val (rv_assign rfl) rfl ?_
      refine GL.nil ?_
      refine GX.then ?_
      refine GC.block ?_
      refine GC.loopK (γ := Nat) [3, 2] [1, 0] (fun g Lk => (6, .int .i64 (g : Int)) :: Lk) (fun g Fk => Fk) (fun g => (g ≤ a.2.1.2.length) ∧ ((a.2.1.2.map rpl).take g = (b.2.1.2.map rpl).take g)) (fun g => a.2.1.2.length - g) (0) rfl rfl ⟨Nat.zero_le _, rfl⟩ (by repeat (first | exact Sub.nil | refine Sub.cons rfl ?_)) (fun w9 h => by
          exact h) (fun j ⟨hj, ht2⟩ => ?_)
      skip
      refine GC.seq ?_
      refine GC.seq ?_
      refine GC.reg ?_
      refine GL.val (rv_move rfl) rfl ?_
      refine GL.val (rv_field fo_26_1 rfl rfl) rfl ?_
      refine GL.val (rv_load ag_23 rfl (Hd.cell (k := 1) rfl rfl)) rfl ?_
      refine GL.val (rv_lenSl Try.underlying23 rfl) rfl ?_
      refine GL.val (rv_lss rfl rfl) rfl ?_
      refine GL.nil ?_
      refine GX.then ?_
      refine GC.condP rfl (fun c53 => ?_) (fun c53 => ?_)
      · have hlt : j < a.2.1.2.length := by omega
        have hlt2 : j < b.2.1.2.length := by omega
        have hqla : (qzc a.2.1.2[j]).length = 35 := qc_len (ka2 _ (List.getElem_mem hlt)).2.2.2
        have hqlb : (qzc b.2.1.2[j]).length = 35 := qc_len (kb2 _ (List.getElem_mem hlt2)).2.2.2
        obtain ⟨ba, oa, hAa, hCa⟩ := slr_some (ha _ (dfx_q a)) (fcat_ne (qz_len ka2) (by decide) hlt)
        replace hAa : a.2.1.1.1 = some ⟨ba, oa, none⟩ := hAa
        replace hCa : Cells w ba oa (fcat qzc a.2.1.2) := hCa
        obtain ⟨bb, ob, hAb, hCb⟩ := slr_some (hb _ (dfx_q b)) (fcat_ne (qz_len kb2) (by decide) hlt2)
        replace hAb : b.2.1.1.1 = some ⟨bb, ob, none⟩ := hAb
        replace hCb : Cells w bb ob (fcat qzc b.2.1.2) := hCb
        refine GC.skip ?_
        refine GX.then ?_
        refine GC.seq ?_
        refine GC.block ?_
        refine GC.seq ?_
        refine GC.draw 12 [0, 1] mo_ ?_
        refine GD.pure1 (i := 0) rfl (fun _ _ => rv_field fo_26_1 rfl rfl) ?_
        refine GD.pure1 (i := 2) rfl (fun _ _ => rv_move rfl) ?_
        refine GD.pure1 (i := 5) rfl (fun _ _ => rv_field fo_26_1 rfl rfl) ?_
        refine GD.pure1 (i := 7) rfl (fun _ _ => rv_move rfl) ?_
        refine GD.read1 (i := 1) rfl (rv_load ag_23 rfl (Hd.cell (k := 1) rfl rfl)) ?_
        refine GD.pure1 (i := 3) rfl (fun _ _ => rv_elemJ (q := oa + j * 35) j es_23 (by rw [hAa]; rfl) rfl rfl hlt rfl) ?_
        refine GD.read1 (i := 4) rfl (rv_loadAL ag_31 rfl (Hd.cells0 (hCa.fcat (qz_len ka2) j hlt) (fun h => h)) (by exact sz_31) hqla) ?_
        refine GD.step (i := 6) (by kernel_rfl) rfl (ot_val (rv_load ag_23 rfl (Hd.cell (k := 0) rfl rfl)) rfl ⟨.inr fun _ h => h.pk [0, 1], ?_⟩)
        refine GD.pure1 (i := 8) rfl (fun _ _ => rv_elemJ (q := ob + j * 35) j es_23 (by rw [hAb]; rfl) rfl rfl hlt2 rfl) ?_
        refine GD.step (i := 9) (by kernel_rfl) rfl (ot_val (rv_loadAL ag_31 rfl (Hd.cells0 (hCb.fcat (qz_len kb2) j hlt2) (fun h => h)) (by exact sz_31) hqlb) rfl ⟨.inr fun _ h => h.pk [0, 1], ?_⟩)
        refine GD.step (i := 10) (by kernel_rfl) rfl (ot_call hb_36 rfl (callOk fun w hh => srZ_c a.2.1.2[j] b.2.1.2[j] w (hh.rd0n (ha _ (dfx_r (List.getElem_mem hlt)))) (hh.rd0n (hb _ (dfx_r (List.getElem_mem hlt2)))) (ka2 _ (List.getElem_mem hlt)) (kb2 _ (List.getElem_mem hlt2))) rfl fun _ _ => ⟨.inr fun _ h => h.pk [0, 1], ?_⟩)
        refine GD.pure1 (i := 11) rfl (fun _ _ => rv_not rfl) ?_
        refine GD.done (by kernel_rfl) ?_
        refine GX.then ?_
        refine GC.cond rfl (fun c67 => ?_) (fun c67 => ?_)
        · have heq : ¬ rpl a.2.1.2[j] = rpl b.2.1.2[j] := by simpa using c67
          have hne : ¬ dpl a = dpl b := fun q => map_ne hlt hlt2 heq (hpl.1 q).2.1
          refine GC.seq ?_
          refine GC.reg ?_
          refine GL.val (rv_assign rfl) rfl ?_
          refine GL.nil ?_
          refine GX.then ?_
          refine GC.ret ?_
          refine GX.blk_ret ?_
          refine GX.then_ret ?_
          refine GX.then_ret ?_
          refine GX.blk_ret ?_
          refine GX.then_ret ?_
          refine GX.ret1 rfl (RR.tmp rfl) ?_
          exact fun w9 h => ⟨(), (by rw [decide_eq_false hne]), by
              have h := h.sel [] rfl rfl
              exact h, trivial⟩
        · have heq : rpl a.2.1.2[j] = rpl b.2.1.2[j] := by simpa using c67
          refine GC.skip ?_
          refine GX.blk ?_
          refine GX.then ?_
          refine GC.reg ?_
          refine GL.val (rv_move rfl) rfl ?_
          refine GL.val (rv_add rfl rfl (by omega) (by omega)) rfl ?_
          refine GL.val (rv_assign rfl) rfl ?_
          refine GL.nil ?_
          exact GX.round (j + 1) (by omega) ⟨by omega, take_s hlt hlt2 ht2 heq⟩ (by repeat (first | exact Sub.nil | refine Sub.cons rfl ?_)) (fun w9 h => by
              exact h)
      · obtain rfl : j = a.2.1.2.length := by omega
        rw [List.take_of_length_le (by rw [List.length_map]; omega), List.take_of_length_le (by rw [List.length_map]; omega)] at ht2
        have heq : dpl a = dpl b := hpl.2 ⟨ht, ht2, hl3⟩
        refine GC.exit ?_
        refine GX.then_exit ?_
        refine GX.then_exit ?_
        refine GX.blk_eq ?_
        refine GX.then ?_
        refine GC.seq ?_
        refine GC.reg ?_
        refine GL.val (rv_assign rfl) rfl ?_
        refine GL.nil ?_
        refine GX.then ?_
        refine GC.ret ?_
        refine GX.ret1 rfl (RR.tmp rfl) ?_
        exact fun w9 h => ⟨(), (by rw [decide_eq_true heq]), by
            have h := h.sel [] rfl rfl
            exact h, trivial⟩
end Go.Proofs.Ytkifeeiafachpaa
