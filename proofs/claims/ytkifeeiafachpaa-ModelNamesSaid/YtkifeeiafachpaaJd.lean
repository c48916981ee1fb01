import Derived.Test.YtkifeeiafachpaaJc
set_option linter.unusedVariables false
set_option linter.unusedSimpArgs false
namespace Go.Proofs.Ytkifeeiafachpaa
open Go Go.RowKit Go.Bz

def fdZ (l : List BindZ) (s : ByteArray) : Option BindZ := l.find? fun b => decide (b.1 = s)
theorem fdZ_pl (l : List BindZ) (s : ByteArray) : fnd (l.map bpl) s = (fdZ l s).map bpl := by
  unfold fnd fdZ; rw [List.find?_map]; rfl
theorem fdZ_mem {l : List BindZ} {s : ByteArray} : (fdZ l s).getD bz0 ∈ l ∨ (fdZ l s).getD bz0 = bz0 := by
  cases h : fdZ l s with
  | none => exact .inr rfl
  | some x => exact .inl (List.mem_of_find?_eq_some h)
theorem fdZ_some {l : List BindZ} {s : ByteArray} {i : Nat} (hi : i < l.length) (h : ∀ k (hk : k < l.length), k < i → l[k].1 ≠ s) (he : l[i].1 = s) : fdZ l s = some l[i] := by
  unfold fdZ
  rw [List.find?_eq_some_iff_getElem]
  exact ⟨by simpa using he, i, hi, rfl, fun j hj => by simpa using h j (by omega) hj⟩
theorem fdZ_none {l : List BindZ} {s : ByteArray} (h : ∀ k (hk : k < l.length), l[k].1 ≠ s) : fdZ l s = none := by
  unfold fdZ
  rw [List.find?_eq_none]
  intro x hx
  obtain ⟨k, hk, rfl⟩ := List.mem_iff_getElem.1 hx
  simpa using h k hk
/-! what put has done ahead of element i -/
def ltZ (l : List BindZ) (s : ByteArray) : List BindZ := l.filter fun x => decide (nlt x.1 s)
def gtZ (l : List BindZ) (s : ByteArray) : List BindZ := l.filter fun x => decide (nlt s x.1)
def pfZ (l : List BindZ) (b : BindZ) (i : Nat) (dn : Bool) : List BindZ := ltZ (l.take i) b.1 ++ (if dn = true then b :: gtZ (l.take i) b.1 else [])
theorem pfZ_t (l : List BindZ) (b : BindZ) (i : Nat) : pfZ l b i true = ltZ (l.take i) b.1 ++ b :: gtZ (l.take i) b.1 := by unfold pfZ; rw [if_pos rfl]
theorem pfZ_f (l : List BindZ) (b : BindZ) (i : Nat) : pfZ l b i false = ltZ (l.take i) b.1 := by unfold pfZ; rw [if_neg (by decide), List.append_nil]
theorem ltZ_s {l : List BindZ} {s : ByteArray} {i : Nat} (hi : i < l.length) : ltZ (l.take (i + 1)) s = ltZ (l.take i) s ++ (if nlt l[i].1 s then [l[i]] else []) := by
  unfold ltZ
  rw [List.take_succ_eq_append_getElem hi, List.filter_append, List.filter_cons, List.filter_nil]
  by_cases h : nlt l[i].1 s <;> simp [h]
theorem gtZ_s {l : List BindZ} {s : ByteArray} {i : Nat} (hi : i < l.length) : gtZ (l.take (i + 1)) s = gtZ (l.take i) s ++ (if nlt s l[i].1 then [l[i]] else []) := by
  unfold gtZ
  rw [List.take_succ_eq_append_getElem hi, List.filter_append, List.filter_cons, List.filter_nil]
  by_cases h : nlt s l[i].1 <;> simp [h]
theorem gtZ_nil {l : List BindZ} {s : ByteArray} {i : Nat} (hi : i ≤ l.length) (h : ∀ k (hk : k < l.length), k < i → nlt l[k].1 s) : gtZ (l.take i) s = [] := by
  unfold gtZ
  rw [List.filter_eq_nil_iff]
  intro x hx
  obtain ⟨k, hk, rfl⟩ := List.mem_iff_getElem.1 hx
  rw [List.length_take] at hk
  rw [List.getElem_take]
  simpa using nlt_asymm (h k (by omega) (by omega))
section
variable {l : List BindZ} {b : BindZ} {i : Nat} (hi : i < l.length)
theorem pf_lt (h : nlt l[i].1 b.1) : pfZ l b (i + 1) false = pfZ l b i false ++ [l[i]] := by
  rw [pfZ_f, pfZ_f, ltZ_s hi, if_pos h]
theorem pf_gt (h1 : ∀ k (hk : k < l.length), k < i → nlt l[k].1 b.1) (h : ¬ nlt l[i].1 b.1) (hne : l[i].1 ≠ b.1) : pfZ l b (i + 1) true = pfZ l b i false ++ [b] ++ [l[i]] := by
  have hg : nlt b.1 l[i].1 := Decidable.byContradiction fun k => hne (nlt_total h k)
  rw [pfZ_t, pfZ_f, ltZ_s hi, if_neg h, gtZ_s hi, if_pos hg, gtZ_nil (by omega) h1]; simp
theorem pf_eq (h1 : ∀ k (hk : k < l.length), k < i → nlt l[k].1 b.1) (h : ¬ nlt l[i].1 b.1) (he : l[i].1 = b.1) : pfZ l b (i + 1) true = pfZ l b i false ++ [b] := by
  rw [pfZ_t, pfZ_f, ltZ_s hi, if_neg h, gtZ_s hi, if_neg (by rw [he]; exact nlt_irrefl _), gtZ_nil (by omega) h1]; simp
theorem pf_dn (hg : nlt b.1 l[i].1) : pfZ l b (i + 1) true = pfZ l b i true ++ [l[i]] := by
  rw [pfZ_t, pfZ_t, ltZ_s hi, if_neg (nlt_asymm hg), gtZ_s hi, if_pos hg]; simp
end
theorem pf_all_t {l : List BindZ} {b : BindZ} : pfZ l b l.length true = insZ l b := by rw [pfZ_t, List.take_length]; rfl
theorem pf_all_f {l : List BindZ} {b : BindZ} (h1 : ∀ k (hk : k < l.length), k < l.length → nlt l[k].1 b.1) : pfZ l b l.length false ++ [b] = insZ l b := by
  have := gtZ_nil (l := l) (s := b.1) (Nat.le_refl _) h1
  rw [List.take_length] at this
  unfold insZ
  rw [pfZ_f, List.take_length]
  unfold gtZ at this
  rw [this]; rfl
theorem srt_gt {l : List BindZ} {s : ByteArray} (h : Srt (nms l)) {k i : Nat} (hk : k < i) (hi : i < l.length) (hn : ¬ nlt (l[k]'(by omega)).1 s) : nlt s l[i].1 := by
  have h1 := h k i (by rw [nms_len]; omega) (by rw [nms_len]; exact hi) hk
  rw [nms_get _ _ (by omega), nms_get _ _ hi] at h1
  by_cases h2 : nlt s (l[k]'(by omega)).1
  · exact nlt_trans h2 h1
  · rw [← nlt_total hn h2]; exact h1
set_option maxRecDepth 100000 in
set_option maxHeartbeats 1000000 in
theorem find_c (A : Option Addr) (c : Nat) (l : List BindZ) (s : ByteArray) (w : World) (hR : SlR w A (fcat bzc l)) (hn : l.length ≤ 1000000) : Calls Try.prog 18 [.slice A l.length c, .string s].toArray w fun e w' => ∃ _g : Unit, e = .returned (.tuple #[.agg (bzc ((fdZ l s).getD bz0)).toArray, .bool (fdZ l s).isSome]) ∧ St noB w w' [] ∧ True := by
  refine GC.calls Try.func18 rfl rfl (St.begin _) ?_
  refine GC.seq ?_
  refine GC.reg ?_
  refine GL.step (ot_alloc (zs := [.string ByteArray.empty, .slice none 0 0, .int .u64 0]) zb_49 rfl rfl fun b4 => ?_)
  refine GL.val (rv_assign rfl) rfl ?_
  refine GL.nil ?_
  refine GX.then ?_
  refine GC.seq ?_
  refine GC.seq ?_
  refine GC.reg ?_
  refine GL.val (rv_assign rfl) rfl ?_
  refine GL.nil ?_
  refine GX.then ?_
  refine GC.block ?_
  refine GC.loopK (γ := Nat) [4, 1, 0] [0] (fun g Lk => (6, .int .i64 (g : Int)) :: Lk) (fun g Fk => Fk) (fun g => (g ≤ l.length) ∧ (∀ k (hk : k < l.length), k < g → l[k].1 ≠ s)) (fun g => l.length - g) (0) rfl rfl ⟨Nat.zero_le _, fun k _ h => absurd h (Nat.not_lt_zero _)⟩ (by repeat (first | exact Sub.nil | refine Sub.cons rfl ?_)) (fun w9 h => by
      exact h) (fun i ⟨hi, h1⟩ => ?_)
  skip
  refine GC.seq ?_
  refine GC.seq ?_
  refine GC.reg ?_
  refine GL.val (rv_move rfl) rfl ?_
  refine GL.val (rv_move rfl) rfl ?_
  refine GL.val (rv_lenSl Try.underlying46 rfl) rfl ?_
  refine GL.val (rv_lss rfl rfl) rfl ?_
  refine GL.nil ?_
  refine GX.then ?_
  refine GC.condP rfl (fun c10 => ?_) (fun c10 => ?_)
  · have hlt : i < l.length := by omega
    obtain ⟨b, o, rfl, hC⟩ := slr_some hR (fcat_ne bz_len (by decide) hlt)
    refine GC.skip ?_
    refine GX.then ?_
    refine GC.seq ?_
    refine GC.block ?_
    refine GC.seq ?_
    refine GC.reg ?_
    refine GL.val (rv_move rfl) rfl ?_
    refine GL.val (rv_move rfl) rfl ?_
    refine GL.val (rv_elemJ (q := o + (i) * 3) (i) es_46 rfl rfl (by rfl) (by exact hlt) rfl) rfl ?_
    refine GL.val (rv_field fo_49_0 rfl rfl) rfl ?_
    refine GL.val (rv_load ag_9 rfl (Hd.cell0 ((hC.fcat bz_len (i) hlt) 0 _ rfl) (fun h => h))) rfl ?_
    refine GL.val (rv_move rfl) rfl ?_
    refine GL.val (rv_eqS rfl rfl) rfl ?_
    refine GL.nil ?_
    refine GX.then ?_
    refine GC.condP rfl (fun c19 => ?_) (fun c19 => ?_)
    · have hf : fdZ l s = some l[i] := fdZ_some hlt h1 c19
      refine GC.seq ?_
      refine GC.reg ?_
      refine GL.val (rv_move rfl) rfl ?_
      refine GL.val (rv_move rfl) rfl ?_
      refine GL.val (rv_elemJ (q := o + (i) * 3) (i) es_46 rfl rfl (by rfl) (by exact hlt) rfl) rfl ?_
      refine GL.val (rv_loadA ag_49 rfl (Hd.cells0 (hC.fcat bz_len i hlt) (fun h => h)) (by exact sz_49)) rfl ?_
      refine GL.step (ot_store (k := 0) rfl rfl rfl rfl sz_49 rfl rfl (show repl _ 0 (bzc l[i]) = bzc l[i] from rfl) ?_)
      refine GL.val (rv_assign rfl) rfl ?_
      refine GL.nil ?_
      refine GX.then ?_
      refine GC.ret ?_
      refine GX.blk_ret ?_
      refine GX.then_ret ?_
      refine GX.then_ret ?_
      refine GX.blk_ret ?_
      refine GX.then_ret ?_
      refine GX.ret2 rfl (RR.cell ag_49 rfl (by exact Hd.cellsAll (k := 0) rfl) (by exact sz_49)) (RR.tmp rfl) ?_
      exact fun w9 h => ⟨(), (by rw [hf]; rfl), by
          have h := h.sel [] rfl rfl
          exact h, trivial⟩
    · skip
      refine GC.skip ?_
      refine GX.blk ?_
      refine GX.then ?_
      refine GC.reg ?_
      refine GL.val (rv_move rfl) rfl ?_
      refine GL.val (rv_add rfl rfl (by omega) (by omega)) rfl ?_
      refine GL.val (rv_assign rfl) rfl ?_
      refine GL.nil ?_
      exact GX.round (i + 1) (by omega) ⟨by omega, fun k hk hki => by rcases Nat.lt_or_ge k i with h | h; exact h1 k hk h; obtain rfl : k = i := (by omega); exact c19⟩ (by repeat (first | exact Sub.nil | refine Sub.cons rfl ?_)) (fun w9 h => by
          exact h)
  · have hf : fdZ l s = none := fdZ_none fun k hk => h1 k hk (by omega)
    refine GC.exit ?_
    refine GX.then_exit ?_
    refine GX.then_exit ?_
    refine GX.blk_eq ?_
    refine GX.then ?_
    refine GC.seq ?_
    refine GC.reg ?_
    refine GL.val (rv_to (v' := .agg (bzc bz0).toArray) (rv_buildS pl_49 zb_49 rfl rfl rfl) rfl) rfl ?_
    refine GL.step (ot_store (k := 0) rfl rfl rfl rfl sz_49 rfl rfl (show repl _ 0 (bzc bz0) = bzc bz0 from rfl) ?_)
    refine GL.val (rv_assign rfl) rfl ?_
    refine GL.nil ?_
    refine GX.then ?_
    refine GC.ret ?_
    refine GX.ret2 rfl (RR.cell ag_49 rfl (by exact Hd.cellsAll (k := 0) rfl) (by exact sz_49)) (RR.tmp rfl) ?_
    exact fun w9 h => ⟨(), (by rw [hf]; rfl), by
        have h := h.sel [] rfl rfl
        exact h, trivial⟩
set_option maxRecDepth 100000 in
set_option maxHeartbeats 1000000 in
theorem put_c (A : Option Addr) (c : Nat) (l : List BindZ) (b : BindZ) (w : World) (hR : SlR w A (fcat bzc l)) (hsrt : Srt (nms l)) (hn : l.length ≤ 1000000) : Calls Try.prog 57 [.slice A l.length c, .agg (bzc b).toArray].toArray w fun e w' => ∃ g : Option Addr × Nat, e = .returned (.slice g.1 (insZ l b).length g.2) ∧ St noB w w' [frzN [(g.1, fcat bzc (insZ l b))]] ∧ (insZ l b).length ≤ g.2 := by
  refine GC.calls Try.func57 rfl rfl (St.begin _) ?_
  refine GC.seq ?_
  refine GC.reg ?_
  refine GL.step (ot_box rfl rfl rfl fun b3 => ?_)
  refine GL.val (rv_assign rfl) rfl ?_
  refine GL.nil ?_
  refine GX.then ?_
  refine GC.seq ?_
  refine GC.reg ?_
  refine GL.val (rv_assign rfl) rfl ?_
  refine GL.nil ?_
  refine GX.then ?_
  refine GC.seq ?_
  refine GC.reg ?_
  refine GL.val (rv_assign rfl) rfl ?_
  refine GL.nil ?_
  refine GX.then ?_
  refine GC.seq ?_
  refine GC.seq ?_
  refine GC.reg ?_
  refine GL.val (rv_assign rfl) rfl ?_
  refine GL.nil ?_
  refine GX.then ?_
  refine GC.block ?_
  refine GC.loopK (γ := Nat × List BindZ × Bool × (Option Addr × Nat)) [3, 0] [0] (fun g Lk => (5, .slice g.2.2.2.1 g.2.1.length g.2.2.2.2) :: (6, .bool g.2.2.1) :: (7, .int .i64 (g.1 : Int)) :: Lk) (fun g Fk => .row g.2.2.2.1 g.2.2.2.2 49 3 g.2.1.length (fcat bzc g.2.1) :: Fk) (fun g => (g.1 ≤ l.length) ∧ (g.2.1 = pfZ l b g.1 g.2.2.1) ∧ (g.2.1.length ≤ g.1 + 1) ∧ (g.2.2.1 = false → g.2.1.length ≤ g.1) ∧ (g.2.2.1 = false → ∀ k (hk : k < l.length), k < g.1 → nlt l[k].1 b.1) ∧ (g.2.2.1 = true → ∃ k, ∃ hk : k < l.length, k < g.1 ∧ ¬ nlt l[k].1 b.1)) (fun g => l.length - g.1) (0, [], false, (none, 0)) rfl rfl ⟨Nat.zero_le _, rfl, Nat.zero_le _, fun _ => Nat.le_refl _, fun _ k _ h => absurd h (Nat.not_lt_zero _), fun h => by cases h⟩ (by repeat (first | exact Sub.nil | refine Sub.cons rfl ?_)) (fun w9 h => by
      have h := h.nilRow 49 3
      exact h) (fun ⟨i, l1, dn, r5⟩ ⟨hi, hl1, hln, hlf, hdf, hdt⟩ => ?_)
  dsimp only at hi hl1 hln hlf hdf hdt ⊢
  refine GC.seq ?_
  refine GC.seq ?_
  refine GC.reg ?_
  refine GL.val (rv_move rfl) rfl ?_
  refine GL.val (rv_move rfl) rfl ?_
  refine GL.val (rv_lenSl Try.underlying46 rfl) rfl ?_
  refine GL.val (rv_lss rfl rfl) rfl ?_
  refine GL.nil ?_
  refine GX.then ?_
  refine GC.condP rfl (fun c11 => ?_) (fun c11 => ?_)
  · have hlt : i < l.length := by omega
    obtain ⟨ab, o, rfl, hC⟩ := slr_some hR (fcat_ne bz_len (by decide) hlt)
    refine GC.skip ?_
    refine GX.then ?_
    refine GC.seq ?_
    refine GC.block ?_
    refine GC.seq ?_
    refine GC.seq ?_
    refine GC.cutq (γ := Unit) [7, 6, 5, 3, 0] [1, 0] (fun g Lk => (25, .bool (decide (dn = false ∧ ¬ nlt l[i].1 b.1))) :: Lk) (fun g Fk => Fk) (fun g => True) rfl rfl ?_ (fun _ _ => ?_)
    · cases dn
      · rw [show decide (false = false ∧ ¬ nlt l[i].1 b.1) = decide (¬ nlt l[i].1 b.1) from decide_eq_decide.2 ⟨fun h => h.2, fun h => ⟨rfl, h⟩⟩]
        refine GC.draw 12 [1] mo_ ?_
        refine GD.pure1 (i := 0) rfl (fun _ _ => rv_move rfl) ?_
        refine GD.pure1 (i := 1) rfl (fun _ _ => rv_not rfl) ?_
        refine GD.pure1 (i := 2) rfl (fun _ _ => rv_move rfl) ?_
        refine GD.pureG1 (i := 3) rfl rfl (fun _ _ => rv_move rfl) ?_
        refine GD.pureG1 (i := 4) rfl rfl (fun _ _ => rv_move rfl) ?_
        refine GD.pureG1 (i := 5) rfl rfl (fun _ _ => rv_elemJ (q := o + (i) * 3) (i) es_46 rfl rfl (by rfl) (by exact hlt) rfl) ?_
        refine GD.pureG1 (i := 6) rfl rfl (fun _ _ => rv_field fo_49_0 rfl rfl) ?_
        refine GD.pureG1 (i := 8) rfl rfl (fun _ _ => rv_field fo_49_0 rfl rfl) ?_
        refine GD.readG1 (i := 7) rfl rfl (rv_load ag_9 rfl (Hd.cell0 ((hC.fcat bz_len (i) hlt) 0 _ rfl) (fun h => h))) ?_
        refine GD.stepG (i := 9) (by kernel_rfl) rfl rfl (ot_val (rv_load ag_9 rfl (Hd.cell (k := 1) rfl rfl)) rfl ⟨.inr fun _ h => h.pk [1], ?_⟩)
        refine GD.pureG1 (i := 10) rfl rfl (fun _ _ => rv_geqS rfl rfl) ?_
        refine GD.pure1 (i := 11) rfl (fun _ _ => (by exact rv_andT rfl rfl rfl)) ?_
        refine GD.done (by kernel_rfl) ?_
        exact GX.cutq () trivial (by repeat (first | exact Sub.nil | refine Sub.cons rfl ?_)) (fun w9 h => by
            exact h)
      · rw [show decide (true = false ∧ ¬ nlt l[i].1 b.1) = false from decide_eq_false (fun h => by cases h.1)]
        refine GC.draw 12 [1] mo_ ?_
        refine GD.pure1 (i := 0) rfl (fun _ _ => rv_move rfl) ?_
        refine GD.pure1 (i := 1) rfl (fun _ _ => rv_not rfl) ?_
        refine GD.pure1 (i := 2) rfl (fun _ _ => rv_move rfl) ?_
        refine GD.skipG1 (i := 3) rfl rfl ?_
        refine GD.skipG1 (i := 4) rfl rfl ?_
        refine GD.skipG1 (i := 5) rfl rfl ?_
        refine GD.skipG1 (i := 6) rfl rfl ?_
        refine GD.skipG1 (i := 8) rfl rfl ?_
        refine GD.skipG1 (i := 7) rfl rfl ?_
        refine GD.skipG1 (i := 9) rfl rfl ?_
        refine GD.skipG1 (i := 10) rfl rfl ?_
        refine GD.pure1 (i := 11) rfl (fun _ _ => (by exact rv_andF rfl rfl rfl)) ?_
        refine GD.done (by kernel_rfl) ?_
        exact GX.cutq () trivial (by repeat (first | exact Sub.nil | refine Sub.cons rfl ?_)) (fun w9 h => by
            exact h)
    refine GX.then ?_
    refine GC.condP rfl (fun c25 => ?_) (fun c25 => ?_)
    · have hcb := c25
      refine GC.seq ?_
      refine GC.reg ?_
      refine GL.val (rv_move rfl) rfl ?_
      refine GL.val (rv_loadA ag_49 rfl (Hd.cells (k := 1) rfl (us := bzc b) rfl) (by exact sz_49)) rfl ?_
      refine GL.step (ot_buildSlice ei_46 rfl rfl rfl rfl rfl rfl fun b28 => ?_)
      refine GL.step (ot_append (k := 1) (news := bzc b) ei_46 rfl rfl rfl rfl (fun w h => .inr ⟨b28, 0, rfl, Hd.cellsAll (k := 0) rfl w h⟩) rfl (by omega) (by decide) rfl fun A29 c29 z29 => ?_)
      refine GL.rowForm (k := 1) rfl fun _ hc29 _ => ?_
      refine GL.val (rv_assign rfl) rfl ?_
      refine GL.nil ?_
      refine GX.then ?_
      refine GC.reg ?_
      refine GL.val (rv_assign rfl) rfl ?_
      refine GL.nil ?_
      refine GX.then ?_
      refine GC.seq ?_
      refine GC.draw 8 [2] mo_ ?_
      refine GD.pure1 (i := 0) rfl (fun _ _ => rv_move rfl) ?_
      refine GD.pure1 (i := 1) rfl (fun _ _ => rv_move rfl) ?_
      refine GD.pure1 (i := 2) rfl (fun _ _ => rv_elemJ (q := o + (i) * 3) (i) es_46 rfl rfl (by rfl) (by exact hlt) rfl) ?_
      refine GD.pure1 (i := 3) rfl (fun _ _ => rv_field fo_49_0 rfl rfl) ?_
      refine GD.pure1 (i := 5) rfl (fun _ _ => rv_field fo_49_0 rfl rfl) ?_
      refine GD.read1 (i := 4) rfl (rv_load ag_9 rfl (Hd.cell0 ((hC.fcat bz_len (i) hlt) 0 _ rfl) (fun h => h))) ?_
      refine GD.step (i := 6) (by kernel_rfl) rfl (ot_val (rv_load ag_9 rfl (Hd.cell (k := 2) rfl rfl)) rfl ⟨.inr fun _ h => h.pk [2], ?_⟩)
      refine GD.pure1 (i := 7) rfl (fun _ _ => rv_neS rfl rfl) ?_
      refine GD.done (by kernel_rfl) ?_
      refine GX.then ?_
      refine GC.condP rfl (fun c37 => ?_) (fun c37 => ?_)
      · skip
        refine GC.reg ?_
        refine GL.val (rv_move rfl) rfl ?_
        refine GL.val (rv_move rfl) rfl ?_
        refine GL.val (rv_move rfl) rfl ?_
        refine GL.val (rv_elemJ (q := o + (i) * 3) (i) es_46 rfl rfl (by rfl) (by exact hlt) rfl) rfl ?_
        refine GL.val (rv_loadA ag_49 rfl (Hd.cells0 (hC.fcat bz_len i hlt) (fun h => h)) (by exact sz_49)) rfl ?_
        refine GL.step (ot_buildSlice ei_46 rfl rfl rfl rfl rfl rfl fun b43 => ?_)
        refine GL.step (ot_append (k := 2) (news := bzc l[i]) ei_46 rfl rfl rfl rfl (fun w h => .inr ⟨b43, 0, rfl, Hd.cellsAll (k := 0) rfl w h⟩) rfl (by omega) (by decide) rfl fun A44 c44 z44 => ?_)
        refine GL.rowForm (k := 2) rfl fun _ hc44 _ => ?_
        refine GL.val (rv_assign rfl) rfl ?_
        refine GL.nil ?_
        refine GX.blk ?_
        refine GX.then ?_
        refine GC.reg ?_
        refine GL.val (rv_move rfl) rfl ?_
        refine GL.val (rv_add rfl rfl (by omega) (by omega)) rfl ?_
        refine GL.val (rv_assign rfl) rfl ?_
        refine GL.nil ?_
        have hpf : pfZ l b (i + 1) true = l1 ++ [b] ++ [l[i]] := (by rw [hl1, hcb.1]; exact pf_gt hlt (hdf hcb.1) hcb.2 c37)
        exact GX.round (i + 1, l1 ++ [b] ++ [l[i]], true, (A44, c44)) (by dsimp only; omega) ⟨by dsimp only; omega, hpf.symm, by have := hlf hcb.1; simp only [List.length_append, List.length_singleton]; omega, fun h => (by cases h), fun h => (by cases h), fun _ => ⟨i, hlt, by dsimp only; omega, hcb.2⟩⟩ (by dsimp only; rw [show (l1 ++ [b] ++ [l[i]]).length = l1.length + 1 + 1 by simp]; repeat (first | exact Sub.nil | refine Sub.cons rfl ?_)) (fun w9 h => by
            have h := h.sel [3, 2] rfl rfl
            rw [show (l1 ++ [b] ++ [l[i]]).length = l1.length + 1 + 1 by simp, fcat_app, fcat_one, fcat_app, fcat_one]
            exact h)
      · skip
        refine GC.skip ?_
        refine GX.blk ?_
        refine GX.then ?_
        refine GC.reg ?_
        refine GL.val (rv_move rfl) rfl ?_
        refine GL.val (rv_add rfl rfl (by omega) (by omega)) rfl ?_
        refine GL.val (rv_assign rfl) rfl ?_
        refine GL.nil ?_
        have hpf : pfZ l b (i + 1) true = l1 ++ [b] := (by rw [hl1, hcb.1]; exact pf_eq hlt (hdf hcb.1) hcb.2 (Decidable.byContradiction c37))
        exact GX.round (i + 1, l1 ++ [b], true, (A29, c29)) (by dsimp only; omega) ⟨by dsimp only; omega, hpf.symm, by have := hlf hcb.1; simp only [List.length_append, List.length_singleton]; omega, fun h => (by cases h), fun h => (by cases h), fun _ => ⟨i, hlt, by dsimp only; omega, hcb.2⟩⟩ (by dsimp only; rw [show (l1 ++ [b]).length = l1.length + 1 by simp]; repeat (first | exact Sub.nil | refine Sub.cons rfl ?_)) (fun w9 h => by
            have h := h.sel [2, 1] rfl rfl
            rw [show (l1 ++ [b]).length = l1.length + 1 by simp, fcat_app, fcat_one]
            exact h)
    · have hcc : dn = false → nlt l[i].1 b.1 := fun h => Decidable.byContradiction fun k => c25 ⟨h, k⟩
      refine GC.skip ?_
      refine GX.then ?_
      refine GC.seq ?_
      refine GC.draw 8 [1] mo_ ?_
      refine GD.pure1 (i := 0) rfl (fun _ _ => rv_move rfl) ?_
      refine GD.pure1 (i := 1) rfl (fun _ _ => rv_move rfl) ?_
      refine GD.pure1 (i := 2) rfl (fun _ _ => rv_elemJ (q := o + (i) * 3) (i) es_46 rfl rfl (by rfl) (by exact hlt) rfl) ?_
      refine GD.pure1 (i := 3) rfl (fun _ _ => rv_field fo_49_0 rfl rfl) ?_
      refine GD.pure1 (i := 5) rfl (fun _ _ => rv_field fo_49_0 rfl rfl) ?_
      refine GD.read1 (i := 4) rfl (rv_load ag_9 rfl (Hd.cell0 ((hC.fcat bz_len (i) hlt) 0 _ rfl) (fun h => h))) ?_
      refine GD.step (i := 6) (by kernel_rfl) rfl (ot_val (rv_load ag_9 rfl (Hd.cell (k := 1) rfl rfl)) rfl ⟨.inr fun _ h => h.pk [1], ?_⟩)
      refine GD.pure1 (i := 7) rfl (fun _ _ => rv_neS rfl rfl) ?_
      refine GD.done (by kernel_rfl) ?_
      refine GX.then ?_
      refine GC.condP rfl (fun c37 => ?_) (fun c37 => ?_)
      · skip
        refine GC.reg ?_
        refine GL.val (rv_move rfl) rfl ?_
        refine GL.val (rv_move rfl) rfl ?_
        refine GL.val (rv_move rfl) rfl ?_
        refine GL.val (rv_elemJ (q := o + (i) * 3) (i) es_46 rfl rfl (by rfl) (by exact hlt) rfl) rfl ?_
        refine GL.val (rv_loadA ag_49 rfl (Hd.cells0 (hC.fcat bz_len i hlt) (fun h => h)) (by exact sz_49)) rfl ?_
        refine GL.step (ot_buildSlice ei_46 rfl rfl rfl rfl rfl rfl fun b43 => ?_)
        refine GL.step (ot_append (k := 1) (news := bzc l[i]) ei_46 rfl rfl rfl rfl (fun w h => .inr ⟨b43, 0, rfl, Hd.cellsAll (k := 0) rfl w h⟩) rfl (by omega) (by decide) rfl fun A44 c44 z44 => ?_)
        refine GL.rowForm (k := 1) rfl fun _ hc44 _ => ?_
        refine GL.val (rv_assign rfl) rfl ?_
        refine GL.nil ?_
        refine GX.blk ?_
        refine GX.then ?_
        refine GC.reg ?_
        refine GL.val (rv_move rfl) rfl ?_
        refine GL.val (rv_add rfl rfl (by omega) (by omega)) rfl ?_
        refine GL.val (rv_assign rfl) rfl ?_
        refine GL.nil ?_
        have hpf : pfZ l b (i + 1) dn = l1 ++ [l[i]] := (by rcases Bool.eq_false_or_eq_true dn with hdn | hdn; (rw [hl1, hdn]; obtain ⟨k, hk, h1, h2⟩ := hdt hdn; exact pf_dn hlt (srt_gt hsrt h1 hlt h2)); (rw [hl1, hdn]; exact pf_lt hlt (hcc hdn)))
        exact GX.round (i + 1, l1 ++ [l[i]], dn, (A44, c44)) (by dsimp only; omega) ⟨by dsimp only; omega, hpf.symm, by simp only [List.length_append, List.length_singleton]; omega, (fun hd => by have := hlf hd; simp only [List.length_append, List.length_singleton]; omega), (fun hd k hk hki => by rcases Nat.lt_or_ge k i with h | h; exact hdf hd k hk h; obtain rfl : k = i := (by dsimp only at hki; omega); exact hcc hd), (fun hd => by obtain ⟨k, hk, h1, h2⟩ := hdt hd; exact ⟨k, hk, by dsimp only; omega, h2⟩)⟩ (by dsimp only; rw [show (l1 ++ [l[i]]).length = l1.length + 1 by simp]; repeat (first | exact Sub.nil | refine Sub.cons rfl ?_)) (fun w9 h => by
            have h := h.sel [2, 1] rfl rfl
            rw [show (l1 ++ [l[i]]).length = l1.length + 1 by simp, fcat_app, fcat_one]
            exact h)
      · exfalso
        cases hdn : dn
        · exact nlt_ne (hcc hdn) (Decidable.byContradiction c37)
        · obtain ⟨k, hk, h1, h2⟩ := hdt hdn
          exact c37 (fun e => nlt_ne (srt_gt hsrt h1 hlt h2) e.symm)
  · obtain rfl : i = l.length := by omega
    refine GC.exit ?_
    refine GX.then_exit ?_
    refine GX.then_exit ?_
    refine GX.blk_eq ?_
    refine GX.then ?_
    refine GC.seq ?_
    refine GC.seq ?_
    refine GC.reg ?_
    refine GL.val (rv_move rfl) rfl ?_
    refine GL.val (rv_not rfl) rfl ?_
    refine GL.nil ?_
    refine GX.then ?_
    refine GC.cond rfl (fun c46 => ?_) (fun c46 => ?_)
    · have hdn : dn = false := by simpa using c46
      subst hdn
      have hfin : l1 ++ [b] = insZ l b := by rw [hl1]; exact pf_all_f (hdf rfl)
      refine GC.reg ?_
      refine GL.val (rv_move rfl) rfl ?_
      refine GL.val (rv_loadA ag_49 rfl (Hd.cells (k := 1) rfl (us := bzc b) rfl) (by exact sz_49)) rfl ?_
      refine GL.step (ot_buildSlice ei_46 rfl rfl rfl rfl rfl rfl fun b49 => ?_)
      refine GL.step (ot_append (k := 1) (news := bzc b) ei_46 rfl rfl rfl rfl (fun w h => .inr ⟨b49, 0, rfl, Hd.cellsAll (k := 0) rfl w h⟩) rfl (by omega) (by decide) rfl fun A50 c50 z50 => ?_)
      refine GL.rowForm (k := 1) rfl fun _ hc50 _ => ?_
      refine GL.val (rv_assign rfl) rfl ?_
      refine GL.nil ?_
      refine GX.then ?_
      refine GC.seq ?_
      refine GC.reg ?_
      refine GL.val (rv_move rfl) rfl ?_
      refine GL.val (rv_assign rfl) rfl ?_
      refine GL.nil ?_
      refine GX.then ?_
      refine GC.ret ?_
      refine GX.ret1 rfl (RR.tmp rfl) ?_
      exact fun w9 h => ⟨(A50, c50), (by rw [← hfin]; simp), by
          have h := h.sel [1] rfl rfl
          have h := h.rowFrz (k := 0) rfl
          rw [← hfin, fcat_app, fcat_one]
          exact h, (by rw [← hfin]; simpa using hc50)⟩
    · have hdn : dn = true := by simpa using c46
      subst hdn
      refine GC.fact (p := l1.length ≤ r5.2) (fun w9 h => (row_form h (k := 0) rfl).2.1) fun hcr5 => ?_
      have hfin : l1 = insZ l b := by rw [hl1]; exact pf_all_t
      refine GC.skip ?_
      refine GX.then ?_
      refine GC.seq ?_
      refine GC.reg ?_
      refine GL.val (rv_move rfl) rfl ?_
      refine GL.val (rv_assign rfl) rfl ?_
      refine GL.nil ?_
      refine GX.then ?_
      refine GC.ret ?_
      refine GX.ret1 rfl (RR.tmp rfl) ?_
      exact fun w9 h => ⟨r5, (by rw [← hfin]), by
          have h := h.sel [0] rfl rfl
          have h := h.rowFrz (k := 0) rfl
          rw [← hfin]
          exact h, (by rw [← hfin]; exact hcr5)⟩
end Go.Proofs.Ytkifeeiafachpaa
