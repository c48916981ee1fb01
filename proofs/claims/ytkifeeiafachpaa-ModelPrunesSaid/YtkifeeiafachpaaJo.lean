import Derived.Test.YtkifeeiafachpaaJn
set_option linter.unusedVariables false
set_option linter.unusedSimpArgs false
namespace Go.Proofs.Ytkifeeiafachpaa
open Go Go.RowKit Go.Bz
theorem es_36 : elemSz Try.prog 36 = some 39 := by kernel_rfl
theorem fo_33_1 : fieldOff Try.prog 33 1 = some 1 := by kernel_rfl
theorem hb_15 : hasBody Try.prog 15 = true := by kernel_rfl
theorem hb_20 : hasBody Try.prog 20 = true := by kernel_rfl
theorem hb_23 : hasBody Try.prog 23 = true := by kernel_rfl
theorem hb_24 : hasBody Try.prog 24 = true := by kernel_rfl
/-! acts -/
abbrev OpZ := Int × ReqZ × ByteArray × UInt64 × UInt64
def ozc (z : OpZ) : List Value := .int .i64 z.1 :: (qzc z.2.1 ++ [.string z.2.2.1, v64 z.2.2.2.1, v64 z.2.2.2.2])
abbrev OpP := Int × Rq × ByteArray × UInt64 × UInt64
def opl (z : OpZ) : OpP := (z.1, rpl z.2.1, z.2.2)
def oOk0 (z : OpZ) : Prop := z.2.1.2.2.2.2.length = 32
theorem oz_len {l : List OpZ} (h : ∀ x ∈ l, oOk0 x) : ∀ x ∈ l, (ozc x).length = 39 := fun x hx => by
  have : (qzc x.2.1).length = 35 := qc_len (h x hx)
  unfold ozc; simp only [List.length_cons, List.length_append, this, List.length_nil]
def qOk0 (q : ReqZ) : Prop := q.2.2.2.2.length = 32
theorem qz_len0 {l : List ReqZ} (h : ∀ q ∈ l, qOk0 q) : ∀ x ∈ l, (qzc x).length = 35 := fun x hx => qc_len (h x hx)
def sumL (l : List EpZ) : Nat := (l.map fun e => e.2.length).sum
def LightP (d : DirZ) : Prop := d.1.2.length ≤ 80 ∧ d.2.1.2.length ≤ 30 ∧ sumL d.1.2 ≤ 2000 ∧ ∀ q ∈ d.2.1.2, q.2.2.1.length ≤ 2000
instance (d : DirZ) : Decidable (LightP d) := inferInstanceAs (Decidable (_ ∧ _))
def FewP (l : List OpZ) : Prop := l.length ≤ 60 ∧ ∀ o ∈ l, o.2.1.2.2.1.length ≤ 200 ∧ o.2.1.2.1.size ≤ 200
instance (l : List OpZ) : Decidable (FewP l) := inferInstanceAs (Decidable (_ ∧ _))
theorem sumL_s {l : List EpZ} {i : Nat} (h : i < l.length) : sumL (l.take (i + 1)) = sumL (l.take i) + l[i].2.length := by
  unfold sumL; rw [List.take_succ_eq_append_getElem h, List.map_append, List.sum_append]; simp
theorem sumL_le {l : List EpZ} {i : Nat} : sumL (l.take i) ≤ sumL l := by
  have : sumL l = sumL (l.take i) + sumL (l.drop i) := by unfold sumL; rw [← List.sum_append, ← List.map_append, List.take_append_drop]
  omega
theorem sumL_mem {l : List EpZ} {e : EpZ} (h : e ∈ l) : e.2.length ≤ sumL l := by
  induction l with
  | nil => cases h
  | cons x l ih =>
    have e1 : sumL (x :: l) = x.2.length + sumL l := by unfold sumL; simp
    rcases List.mem_cons.1 h with rfl | h
    · omega
    · have := ih h; omega
set_option maxRecDepth 100000 in
set_option maxHeartbeats 1000000 in
theorem light_c (d : DirZ) (w : World) (hE : SlR w d.1.1.1 (fcat ecell d.1.2)) (hQ : SlR w d.2.1.1.1 (fcat qzc d.2.1.2)) (hq0 : ∀ q ∈ d.2.1.2, qOk0 q) (hel : ∀ e ∈ d.1.2, e.2.length ≤ 140737488355328) (hl1 : d.1.2.length ≤ 140737488355328) (hl2 : d.2.1.2.length ≤ 140737488355328) : Calls Try.prog 9 [.agg (dcell d).toArray].toArray w fun e w' => ∃ _g : Unit, e = .returned (.bool (decide (LightP d))) ∧ St noB w w' [] ∧ True := by
  refine GC.calls Try.func9 rfl rfl (St.begin _) ?_
  refine GC.seq ?_
  refine GC.reg ?_
  refine GL.step (ot_box rfl rfl rfl fun b1 => ?_)
  refine GL.val (rv_assign rfl) rfl ?_
  refine GL.nil ?_
  refine GX.then ?_
  refine GC.seq ?_
  refine GC.seq ?_
  refine GC.cutq (γ := Unit) [1] [0] (fun g Lk => (15, .bool (decide (80 < d.1.2.length ∨ 30 < d.2.1.2.length))) :: Lk) (fun g Fk => Fk) (fun g => True) rfl rfl ?_ (fun _ _ => ?_)
  · rcases (by omega : (80 < d.1.2.length) ∨ (d.1.2.length ≤ 80 ∧ 30 < d.2.1.2.length) ∨ (d.1.2.length ≤ 80 ∧ d.2.1.2.length ≤ 30)) with h | h | h
    · rw [show decide (80 < d.1.2.length ∨ 30 < d.2.1.2.length) = true from decide_eq_true (by omega)]
      refine GC.reg ?_
      refine GL.val (rv_field fo_26_0 rfl rfl) rfl ?_
      refine GL.val (rv_load ag_22 rfl (Hd.cell (k := 0) rfl rfl)) rfl ?_
      refine GL.val (rv_lenSl Try.underlying22 rfl) rfl ?_
      refine GL.val ((by exact rv_to (v' := .bool true) (rv_gtr rfl rfl) (congrArg Value.bool (decide_eq_true (by omega))))) rfl ?_
      refine GL.val (rv_move rfl) rfl ?_
      refine GL.skipG rfl rfl ?_
      refine GL.skipG rfl rfl ?_
      refine GL.skipG rfl rfl ?_
      refine GL.skipG rfl rfl ?_
      refine GL.val ((by exact rv_orT rfl rfl rfl)) rfl ?_
      refine GL.nil ?_
      exact GX.cutq () trivial (by repeat (first | exact Sub.nil | refine Sub.cons rfl ?_)) (fun w9 h => by
          exact h)
    · rw [show decide (80 < d.1.2.length ∨ 30 < d.2.1.2.length) = true from decide_eq_true (by omega)]
      refine GC.reg ?_
      refine GL.val (rv_field fo_26_0 rfl rfl) rfl ?_
      refine GL.val (rv_load ag_22 rfl (Hd.cell (k := 0) rfl rfl)) rfl ?_
      refine GL.val (rv_lenSl Try.underlying22 rfl) rfl ?_
      refine GL.val ((by exact rv_to (v' := .bool false) (rv_gtr rfl rfl) (congrArg Value.bool (decide_eq_false (by omega))))) rfl ?_
      refine GL.val (rv_move rfl) rfl ?_
      refine GL.valT rfl (rv_field fo_26_1 rfl rfl) rfl ?_
      refine GL.valT rfl (rv_load ag_23 rfl (Hd.cell (k := 0) rfl rfl)) rfl ?_
      refine GL.valT rfl (rv_lenSl Try.underlying23 rfl) rfl ?_
      refine GL.valT rfl ((by exact rv_to (v' := .bool true) (rv_gtr rfl rfl) (congrArg Value.bool (decide_eq_true (by omega))))) rfl ?_
      refine GL.val ((by exact rv_orF rfl rfl rfl)) rfl ?_
      refine GL.nil ?_
      exact GX.cutq () trivial (by repeat (first | exact Sub.nil | refine Sub.cons rfl ?_)) (fun w9 h => by
          exact h)
    · rw [show decide (80 < d.1.2.length ∨ 30 < d.2.1.2.length) = false from decide_eq_false (by omega)]
      refine GC.reg ?_
      refine GL.val (rv_field fo_26_0 rfl rfl) rfl ?_
      refine GL.val (rv_load ag_22 rfl (Hd.cell (k := 0) rfl rfl)) rfl ?_
      refine GL.val (rv_lenSl Try.underlying22 rfl) rfl ?_
      refine GL.val ((by exact rv_to (v' := .bool false) (rv_gtr rfl rfl) (congrArg Value.bool (decide_eq_false (by omega))))) rfl ?_
      refine GL.val (rv_move rfl) rfl ?_
      refine GL.valT rfl (rv_field fo_26_1 rfl rfl) rfl ?_
      refine GL.valT rfl (rv_load ag_23 rfl (Hd.cell (k := 0) rfl rfl)) rfl ?_
      refine GL.valT rfl (rv_lenSl Try.underlying23 rfl) rfl ?_
      refine GL.valT rfl ((by exact rv_to (v' := .bool false) (rv_gtr rfl rfl) (congrArg Value.bool (decide_eq_false (by omega))))) rfl ?_
      refine GL.val ((by exact rv_orF rfl rfl rfl)) rfl ?_
      refine GL.nil ?_
      exact GX.cutq () trivial (by repeat (first | exact Sub.nil | refine Sub.cons rfl ?_)) (fun w9 h => by
          exact h)
  refine GX.then ?_
  refine GC.condP rfl (fun c15 => ?_) (fun c15 => ?_)
  · skip
    refine GC.seq ?_
    refine GC.reg ?_
    refine GL.val (rv_assign rfl) rfl ?_
    refine GL.nil ?_
    refine GX.then ?_
    refine GC.ret ?_
    refine GX.then_ret ?_
    refine GX.ret1 rfl (RR.tmp rfl) ?_
    exact fun w9 h => ⟨(), (by rw [decide_eq_false (fun h => by unfold LightP at h; omega)]), by
        have h := h.sel [] rfl rfl
        exact h, trivial⟩
  · have h15 : d.1.2.length ≤ 80 ∧ d.2.1.2.length ≤ 30 := by omega
    refine GC.skip ?_
    refine GX.then ?_
    refine GC.seq ?_
    refine GC.reg ?_
    refine GL.val (rv_assign rfl) rfl ?_
    refine GL.nil ?_
    refine GX.then ?_
    refine GC.seq ?_
    refine GC.seq ?_
    refine GC.reg ?_
    refine GL.val (rv_assign rfl) rfl ?_
    refine GL.nil ?_
    refine GX.then ?_
    refine GC.block ?_
    refine GC.loopK (γ := Nat × Nat) [1] [0] (fun g Lk => (3, .int .i64 (g.1 : Int)) :: (4, .int .i64 (g.2 : Int)) :: Lk) (fun g Fk => Fk) (fun g => (g.2 ≤ d.1.2.length) ∧ (g.1 ≤ 2000 + 140737488355328) ∧ (g.1 = sumL (d.1.2.take g.2))) (fun g => d.1.2.length - g.2) (0, 0) rfl rfl ⟨Nat.zero_le _, Nat.zero_le _, rfl⟩ (by repeat (first | exact Sub.nil | refine Sub.cons rfl ?_)) (fun w9 h => by
        exact h) (fun ⟨m, i⟩ ⟨hi, hm, hs⟩ => ?_)
    dsimp only at hi hm hs ⊢
    refine GC.seq ?_
    refine GC.seq ?_
    refine GC.cutq (γ := Unit) [4, 3, 1] [0] (fun g Lk => (24, .bool (decide (i < d.1.2.length ∧ m ≤ 2000))) :: Lk) (fun g Fk => Fk) (fun g => True) rfl rfl ?_ (fun _ _ => ?_)
    · rcases (by omega : (¬ i < d.1.2.length) ∨ (i < d.1.2.length ∧ m ≤ 2000) ∨ (i < d.1.2.length ∧ 2000 < m)) with h | h | h
      · rw [show decide (i < d.1.2.length ∧ m ≤ 2000) = false from decide_eq_false (by omega)]
        refine GC.reg ?_
        refine GL.val (rv_move rfl) rfl ?_
        refine GL.val (rv_field fo_26_0 rfl rfl) rfl ?_
        refine GL.val (rv_load ag_22 rfl (Hd.cell (k := 0) rfl rfl)) rfl ?_
        refine GL.val (rv_lenSl Try.underlying22 rfl) rfl ?_
        refine GL.val ((by exact rv_to (v' := .bool false) (rv_lss rfl rfl) (congrArg Value.bool (decide_eq_false (by omega))))) rfl ?_
        refine GL.val (rv_move rfl) rfl ?_
        refine GL.skipG rfl rfl ?_
        refine GL.skipG rfl rfl ?_
        refine GL.val ((by exact rv_andF rfl rfl rfl)) rfl ?_
        refine GL.nil ?_
        exact GX.cutq () trivial (by repeat (first | exact Sub.nil | refine Sub.cons rfl ?_)) (fun w9 h => by
            exact h)
      · rw [show decide (i < d.1.2.length ∧ m ≤ 2000) = true from decide_eq_true (by omega)]
        refine GC.reg ?_
        refine GL.val (rv_move rfl) rfl ?_
        refine GL.val (rv_field fo_26_0 rfl rfl) rfl ?_
        refine GL.val (rv_load ag_22 rfl (Hd.cell (k := 0) rfl rfl)) rfl ?_
        refine GL.val (rv_lenSl Try.underlying22 rfl) rfl ?_
        refine GL.val ((by exact rv_to (v' := .bool true) (rv_lss rfl rfl) (congrArg Value.bool (decide_eq_true (by omega))))) rfl ?_
        refine GL.val (rv_move rfl) rfl ?_
        refine GL.valT rfl (rv_move rfl) rfl ?_
        refine GL.valT rfl ((by exact rv_to (v' := .bool true) (rv_leq rfl rfl) (congrArg Value.bool (decide_eq_true (by omega))))) rfl ?_
        refine GL.val ((by exact rv_andT rfl rfl rfl)) rfl ?_
        refine GL.nil ?_
        exact GX.cutq () trivial (by repeat (first | exact Sub.nil | refine Sub.cons rfl ?_)) (fun w9 h => by
            exact h)
      · rw [show decide (i < d.1.2.length ∧ m ≤ 2000) = false from decide_eq_false (by omega)]
        refine GC.reg ?_
        refine GL.val (rv_move rfl) rfl ?_
        refine GL.val (rv_field fo_26_0 rfl rfl) rfl ?_
        refine GL.val (rv_load ag_22 rfl (Hd.cell (k := 0) rfl rfl)) rfl ?_
        refine GL.val (rv_lenSl Try.underlying22 rfl) rfl ?_
        refine GL.val ((by exact rv_to (v' := .bool true) (rv_lss rfl rfl) (congrArg Value.bool (decide_eq_true (by omega))))) rfl ?_
        refine GL.val (rv_move rfl) rfl ?_
        refine GL.valT rfl (rv_move rfl) rfl ?_
        refine GL.valT rfl ((by exact rv_to (v' := .bool false) (rv_leq rfl rfl) (congrArg Value.bool (decide_eq_false (by omega))))) rfl ?_
        refine GL.val ((by exact rv_andT rfl rfl rfl)) rfl ?_
        refine GL.nil ?_
        exact GX.cutq () trivial (by repeat (first | exact Sub.nil | refine Sub.cons rfl ?_)) (fun w9 h => by
            exact h)
    refine GX.then ?_
    refine GC.condP rfl (fun c24 => ?_) (fun c24 => ?_)
    · have hlt := c24.1
      have hb := hel _ (List.getElem_mem hlt)
      obtain ⟨be, oe, hAe, hCe⟩ := slr_some hE (fcat_ne ec_len (by decide) hlt)
      refine GC.skip ?_
      refine GX.then ?_
      refine GC.seq ?_
      refine GC.block ?_
      refine GC.reg ?_
      refine GL.val (rv_move rfl) rfl ?_
      refine GL.val (rv_field fo_26_0 rfl rfl) rfl ?_
      refine GL.val (rv_load ag_22 rfl (Hd.cell (k := 0) rfl rfl)) rfl ?_
      refine GL.val (rv_move rfl) rfl ?_
      refine GL.val (rv_elemJ (q := oe + i * 1) i es_22 (by rw [hAe]; rfl) rfl rfl hlt rfl) rfl ?_
      refine GL.val (rv_load ag_46 rfl (Hd.cell0 ((hCe.fcat ec_len (i) hlt) 0 _ rfl) (fun h => h))) rfl ?_
      refine GL.val (rv_lenSl Try.underlying46 rfl) rfl ?_
      refine GL.val (rv_to (v' := .int .i64 ((m + d.1.2[i].2.length : Nat) : Int)) (rv_add rfl rfl (by omega) (by omega)) (congrArg (Value.int .i64) (by omega))) rfl ?_
      refine GL.val (rv_assign rfl) rfl ?_
      refine GL.nil ?_
      refine GX.blk ?_
      refine GX.then ?_
      refine GC.reg ?_
      refine GL.val (rv_move rfl) rfl ?_
      refine GL.val (rv_add rfl rfl (by omega) (by omega)) rfl ?_
      refine GL.val (rv_assign rfl) rfl ?_
      refine GL.nil ?_
      have hb := hel _ (List.getElem_mem hlt)
      exact GX.round (m + d.1.2[i].2.length, i + 1) (by dsimp only; omega) ⟨by omega, by dsimp only; omega, by rw [sumL_s hlt, ← hs]⟩ (by repeat (first | exact Sub.nil | refine Sub.cons rfl ?_)) (fun w9 h => by
          exact h)
    · skip
      refine GC.exit ?_
      refine GX.then_exit ?_
      refine GX.then_exit ?_
      refine GX.blk_eq ?_
      refine GX.then ?_
      refine GC.seq ?_
      refine GC.seq ?_
      refine GC.reg ?_
      refine GL.val (rv_assign rfl) rfl ?_
      refine GL.nil ?_
      refine GX.then ?_
      refine GC.block ?_
      refine GC.loopK (γ := Nat) [3, 1] [0] (fun g Lk => (5, .int .i64 (g : Int)) :: Lk) (fun g Fk => Fk) (fun g => (g ≤ d.2.1.2.length) ∧ (∀ k (hk : k < d.2.1.2.length), k < g → d.2.1.2[k].2.2.1.length ≤ 2000)) (fun g => d.2.1.2.length - g) (0) rfl rfl ⟨Nat.zero_le _, fun k _ h => absurd h (Nat.not_lt_zero _)⟩ (by repeat (first | exact Sub.nil | refine Sub.cons rfl ?_)) (fun w9 h => by
          exact h) (fun j ⟨hj, hk2⟩ => ?_)
      skip
      refine GC.seq ?_
      refine GC.seq ?_
      refine GC.reg ?_
      refine GL.val (rv_move rfl) rfl ?_
      refine GL.val (rv_field fo_26_1 rfl rfl) rfl ?_
      refine GL.val (rv_load ag_23 rfl (Hd.cell (k := 0) rfl rfl)) rfl ?_
      refine GL.val (rv_lenSl Try.underlying23 rfl) rfl ?_
      refine GL.val (rv_lss rfl rfl) rfl ?_
      refine GL.nil ?_
      refine GX.then ?_
      refine GC.condP rfl (fun c39 => ?_) (fun c39 => ?_)
      · have hlt : j < d.2.1.2.length := by omega
        obtain ⟨bq, oq, hAq, hCq⟩ := slr_some hQ (fcat_ne (qz_len0 hq0) (by decide) hlt)
        refine GC.skip ?_
        refine GX.then ?_
        refine GC.seq ?_
        refine GC.block ?_
        refine GC.seq ?_
        refine GC.reg ?_
        refine GL.val (rv_field fo_26_1 rfl rfl) rfl ?_
        refine GL.val (rv_load ag_23 rfl (Hd.cell (k := 0) rfl rfl)) rfl ?_
        refine GL.val (rv_move rfl) rfl ?_
        refine GL.val (rv_elemJ (q := oq + j * 35) j es_23 (by rw [hAq]; rfl) rfl rfl hlt rfl) rfl ?_
        refine GL.val (rv_field fo_31_2 rfl rfl) rfl ?_
        refine GL.val (rv_load ag_27 rfl (Hd.cell0 ((hCq.fcat (qz_len0 hq0) j hlt) 2 _ rfl) (fun h => h))) rfl ?_
        refine GL.val (rv_lenSl Try.underlying27 rfl) rfl ?_
        refine GL.val (rv_gtr rfl rfl) rfl ?_
        refine GL.nil ?_
        refine GX.then ?_
        refine GC.condP rfl (fun c49 => ?_) (fun c49 => ?_)
        · skip
          refine GC.seq ?_
          refine GC.reg ?_
          refine GL.val (rv_assign rfl) rfl ?_
          refine GL.nil ?_
          refine GX.then ?_
          refine GC.ret ?_
          refine GX.blk_ret ?_
          refine GX.then_ret ?_
          refine GX.then_ret ?_
          refine GX.blk_ret ?_
          refine GX.then_ret ?_
          refine GX.ret1 rfl (RR.tmp rfl) ?_
          exact fun w9 h => ⟨(), (by rw [decide_eq_false (fun h => by have := h.2.2.2 _ (List.getElem_mem hlt); omega)]), by
              have h := h.sel [] rfl rfl
              exact h, trivial⟩
        · have hkl : d.2.1.2[j].2.2.1.length ≤ 2000 := by omega
          refine GC.skip ?_
          refine GX.blk ?_
          refine GX.then ?_
          refine GC.reg ?_
          refine GL.val (rv_move rfl) rfl ?_
          refine GL.val (rv_add rfl rfl (by omega) (by omega)) rfl ?_
          refine GL.val (rv_assign rfl) rfl ?_
          refine GL.nil ?_
          exact GX.round (j + 1) (by omega) ⟨by omega, fun k hk hki => by rcases Nat.lt_or_ge k j with h | h; exact hk2 k hk h; obtain rfl : k = j := (by omega); omega⟩ (by repeat (first | exact Sub.nil | refine Sub.cons rfl ?_)) (fun w9 h => by
              exact h)
      · skip
        refine GC.exit ?_
        refine GX.then_exit ?_
        refine GX.then_exit ?_
        refine GX.blk_eq ?_
        refine GX.then ?_
        refine GC.seq ?_
        refine GC.reg ?_
        refine GL.val (rv_move rfl) rfl ?_
        refine GL.val (rv_leq rfl rfl) rfl ?_
        refine GL.val (rv_assign rfl) rfl ?_
        refine GL.nil ?_
        refine GX.then ?_
        refine GC.ret ?_
        have hje : j = d.2.1.2.length := by omega
        have hke : ∀ q ∈ d.2.1.2, q.2.2.1.length ≤ 2000 := fun q hq => by
          obtain ⟨k, hk, rfl⟩ := List.mem_iff_getElem.1 hq
          exact hk2 k hk (by omega)
        have hsl := sumL_le (l := d.1.2) (i := i)
        refine GX.ret1 rfl (RR.tmp rfl) ?_
        exact fun w9 h => ⟨(), (by rw [decide_eq_decide.2 (show ((m : Int) ≤ 2000 ↔ LightP d) from ⟨fun h => ⟨h15.1, h15.2, by rw [List.take_of_length_le (by omega)] at hs; omega, hke⟩, fun h => by have := h.2.2.1; omega⟩)]), by
            have h := h.sel [] rfl rfl
            exact h, trivial⟩
set_option maxRecDepth 100000 in
set_option maxHeartbeats 1000000 in
theorem few_c (A : Option Addr) (c : Nat) (os : List OpZ) (w : World) (hR : SlR w A (fcat ozc os)) (ho0 : ∀ o ∈ os, oOk0 o) : Calls Try.prog 10 [.slice A os.length c].toArray w fun e w' => ∃ _g : Unit, e = .returned (.bool (decide (FewP os))) ∧ St noB w w' [] ∧ True := by
  refine GC.calls Try.func10 rfl rfl (St.begin _) ?_
  refine GC.seq ?_
  refine GC.reg ?_
  refine GL.val (rv_assign rfl) rfl ?_
  refine GL.nil ?_
  refine GX.then ?_
  refine GC.seq ?_
  refine GC.seq ?_
  refine GC.reg ?_
  refine GL.val (rv_move rfl) rfl ?_
  refine GL.val (rv_lenSl Try.underlying36 rfl) rfl ?_
  refine GL.val (rv_gtr rfl rfl) rfl ?_
  refine GL.nil ?_
  refine GX.then ?_
  refine GC.condP rfl (fun c6 => ?_) (fun c6 => ?_)
  · skip
    refine GC.seq ?_
    refine GC.reg ?_
    refine GL.val (rv_assign rfl) rfl ?_
    refine GL.nil ?_
    refine GX.then ?_
    refine GC.ret ?_
    refine GX.then_ret ?_
    refine GX.ret1 rfl (RR.tmp rfl) ?_
    exact fun w9 h => ⟨(), (by rw [decide_eq_false (fun h => by have := h.1; omega)]), by
        exact h, trivial⟩
  · have h60 : os.length ≤ 60 := by omega
    refine GC.skip ?_
    refine GX.then ?_
    refine GC.seq ?_
    refine GC.seq ?_
    refine GC.reg ?_
    refine GL.val (rv_assign rfl) rfl ?_
    refine GL.nil ?_
    refine GX.then ?_
    refine GC.block ?_
    refine GC.loopK (γ := Nat) [0] [] (fun g Lk => (3, .int .i64 (g : Int)) :: Lk) (fun g Fk => Fk) (fun g => (g ≤ os.length) ∧ (∀ k (hk : k < os.length), k < g → os[k].2.1.2.2.1.length ≤ 200 ∧ os[k].2.1.2.1.size ≤ 200)) (fun g => os.length - g) (0) rfl rfl ⟨Nat.zero_le _, fun k _ h => absurd h (Nat.not_lt_zero _)⟩ (by repeat (first | exact Sub.nil | refine Sub.cons rfl ?_)) (fun w9 h => by
        exact h) (fun i ⟨hi, hs⟩ => ?_)
    skip
    refine GC.seq ?_
    refine GC.seq ?_
    refine GC.reg ?_
    refine GL.val (rv_move rfl) rfl ?_
    refine GL.val (rv_move rfl) rfl ?_
    refine GL.val (rv_lenSl Try.underlying36 rfl) rfl ?_
    refine GL.val (rv_lss rfl rfl) rfl ?_
    refine GL.nil ?_
    refine GX.then ?_
    refine GC.condP rfl (fun c10 => ?_) (fun c10 => ?_)
    · have hlt : i < os.length := by omega
      obtain ⟨b, o, rfl, hC⟩ := slr_some hR (fcat_ne (oz_len ho0) (by decide) hlt)
      refine GC.skip ?_
      refine GX.then ?_
      refine GC.seq ?_
      refine GC.block ?_
      refine GC.seq ?_
      refine GC.cutq (γ := Unit) [3, 0] [] (fun g Lk => (30, .bool (decide (200 < os[i].2.1.2.2.1.length ∨ 200 < os[i].2.1.2.1.size))) :: Lk) (fun g Fk => Fk) (fun g => True) rfl rfl ?_ (fun _ _ => ?_)
      · rcases (by omega : (200 < os[i].2.1.2.2.1.length) ∨ (os[i].2.1.2.2.1.length ≤ 200 ∧ 200 < os[i].2.1.2.1.size) ∨ (os[i].2.1.2.2.1.length ≤ 200 ∧ os[i].2.1.2.1.size ≤ 200)) with h | h | h
        · rw [show decide (200 < os[i].2.1.2.2.1.length ∨ 200 < os[i].2.1.2.1.size) = true from decide_eq_true (by omega)]
          refine GC.reg ?_
          refine GL.val (rv_move rfl) rfl ?_
          refine GL.val (rv_move rfl) rfl ?_
          refine GL.val (rv_elemJ (q := o + i * 39) i es_36 rfl rfl rfl hlt rfl) rfl ?_
          refine GL.val (rv_field fo_33_1 rfl rfl) rfl ?_
          refine GL.val (rv_field fo_31_2 rfl rfl) rfl ?_
          refine GL.val (rv_load ag_27 rfl (Hd.cell0 ((hC.fcat (oz_len ho0) i hlt) 3 _ rfl) (fun h => h))) rfl ?_
          refine GL.val (rv_lenSl Try.underlying27 rfl) rfl ?_
          refine GL.val ((by exact rv_to (v' := .bool true) (rv_gtr rfl rfl) (congrArg Value.bool (decide_eq_true (by omega))))) rfl ?_
          refine GL.val (rv_move rfl) rfl ?_
          refine GL.skipG rfl rfl ?_
          refine GL.skipG rfl rfl ?_
          refine GL.skipG rfl rfl ?_
          refine GL.skipG rfl rfl ?_
          refine GL.skipG rfl rfl ?_
          refine GL.skipG rfl rfl ?_
          refine GL.skipG rfl rfl ?_
          refine GL.skipG rfl rfl ?_
          refine GL.val ((by exact rv_orT rfl rfl rfl)) rfl ?_
          refine GL.nil ?_
          exact GX.cutq () trivial (by repeat (first | exact Sub.nil | refine Sub.cons rfl ?_)) (fun w9 h => by
              exact h)
        · rw [show decide (200 < os[i].2.1.2.2.1.length ∨ 200 < os[i].2.1.2.1.size) = true from decide_eq_true (by omega)]
          refine GC.reg ?_
          refine GL.val (rv_move rfl) rfl ?_
          refine GL.val (rv_move rfl) rfl ?_
          refine GL.val (rv_elemJ (q := o + i * 39) i es_36 rfl rfl rfl hlt rfl) rfl ?_
          refine GL.val (rv_field fo_33_1 rfl rfl) rfl ?_
          refine GL.val (rv_field fo_31_2 rfl rfl) rfl ?_
          refine GL.val (rv_load ag_27 rfl (Hd.cell0 ((hC.fcat (oz_len ho0) i hlt) 3 _ rfl) (fun h => h))) rfl ?_
          refine GL.val (rv_lenSl Try.underlying27 rfl) rfl ?_
          refine GL.val ((by exact rv_to (v' := .bool false) (rv_gtr rfl rfl) (congrArg Value.bool (decide_eq_false (by omega))))) rfl ?_
          refine GL.val (rv_move rfl) rfl ?_
          refine GL.valT rfl (rv_move rfl) rfl ?_
          refine GL.valT rfl (rv_move rfl) rfl ?_
          refine GL.valT rfl (rv_elemJ (q := o + i * 39) i es_36 rfl rfl rfl hlt rfl) rfl ?_
          refine GL.valT rfl (rv_field fo_33_1 rfl rfl) rfl ?_
          refine GL.valT rfl (rv_field fo_31_1 rfl rfl) rfl ?_
          refine GL.valT rfl (rv_load ag_9 rfl (Hd.cell0 ((hC.fcat (oz_len ho0) i hlt) 2 _ rfl) (fun h => h))) rfl ?_
          refine GL.valT rfl (rv_lenS Try.underlying9 rfl) rfl ?_
          refine GL.valT rfl ((by exact rv_to (v' := .bool true) (rv_gtr rfl rfl) (congrArg Value.bool (decide_eq_true (by omega))))) rfl ?_
          refine GL.val ((by exact rv_orF rfl rfl rfl)) rfl ?_
          refine GL.nil ?_
          exact GX.cutq () trivial (by repeat (first | exact Sub.nil | refine Sub.cons rfl ?_)) (fun w9 h => by
              exact h)
        · rw [show decide (200 < os[i].2.1.2.2.1.length ∨ 200 < os[i].2.1.2.1.size) = false from decide_eq_false (by omega)]
          refine GC.reg ?_
          refine GL.val (rv_move rfl) rfl ?_
          refine GL.val (rv_move rfl) rfl ?_
          refine GL.val (rv_elemJ (q := o + i * 39) i es_36 rfl rfl rfl hlt rfl) rfl ?_
          refine GL.val (rv_field fo_33_1 rfl rfl) rfl ?_
          refine GL.val (rv_field fo_31_2 rfl rfl) rfl ?_
          refine GL.val (rv_load ag_27 rfl (Hd.cell0 ((hC.fcat (oz_len ho0) i hlt) 3 _ rfl) (fun h => h))) rfl ?_
          refine GL.val (rv_lenSl Try.underlying27 rfl) rfl ?_
          refine GL.val ((by exact rv_to (v' := .bool false) (rv_gtr rfl rfl) (congrArg Value.bool (decide_eq_false (by omega))))) rfl ?_
          refine GL.val (rv_move rfl) rfl ?_
          refine GL.valT rfl (rv_move rfl) rfl ?_
          refine GL.valT rfl (rv_move rfl) rfl ?_
          refine GL.valT rfl (rv_elemJ (q := o + i * 39) i es_36 rfl rfl rfl hlt rfl) rfl ?_
          refine GL.valT rfl (rv_field fo_33_1 rfl rfl) rfl ?_
          refine GL.valT rfl (rv_field fo_31_1 rfl rfl) rfl ?_
          refine GL.valT rfl (rv_load ag_9 rfl (Hd.cell0 ((hC.fcat (oz_len ho0) i hlt) 2 _ rfl) (fun h => h))) rfl ?_
          refine GL.valT rfl (rv_lenS Try.underlying9 rfl) rfl ?_
          refine GL.valT rfl ((by exact rv_to (v' := .bool false) (rv_gtr rfl rfl) (congrArg Value.bool (decide_eq_false (by omega))))) rfl ?_
          refine GL.val ((by exact rv_orF rfl rfl rfl)) rfl ?_
          refine GL.nil ?_
          exact GX.cutq () trivial (by repeat (first | exact Sub.nil | refine Sub.cons rfl ?_)) (fun w9 h => by
              exact h)
      refine GX.then ?_
      refine GC.condP rfl (fun c30 => ?_) (fun c30 => ?_)
      · refine GC.seq ?_
        refine GC.reg ?_
        refine GL.val (rv_assign rfl) rfl ?_
        refine GL.nil ?_
        refine GX.then ?_
        refine GC.ret ?_
        refine GX.blk_ret ?_
        refine GX.then_ret ?_
        refine GX.then_ret ?_
        refine GX.blk_ret ?_
        refine GX.then_ret ?_
        refine GX.ret1 rfl (RR.tmp rfl) ?_
        exact fun w9 h => ⟨(), (by rw [decide_eq_false (fun h => by have := h.2 _ (List.getElem_mem hlt); omega)]), by
            exact h, trivial⟩
      · refine GC.skip ?_
        refine GX.blk ?_
        refine GX.then ?_
        refine GC.reg ?_
        refine GL.val (rv_move rfl) rfl ?_
        refine GL.val (rv_add rfl rfl (by omega) (by omega)) rfl ?_
        refine GL.val (rv_assign rfl) rfl ?_
        refine GL.nil ?_
        exact GX.round (i + 1) (by omega) ⟨by omega, fun k hk hki => by rcases Nat.lt_or_ge k i with h | h; exact hs k hk h; obtain rfl : k = i := (by omega); omega⟩ (by repeat (first | exact Sub.nil | refine Sub.cons rfl ?_)) (fun w9 h => by
            exact h)
    · have hie : i = os.length := by omega
      refine GC.exit ?_
      refine GX.then_exit ?_
      refine GX.then_exit ?_
      refine GX.blk_eq ?_
      refine GX.then ?_
      refine GC.seq ?_
      refine GC.reg ?_
      refine GL.val (rv_assign rfl) rfl ?_
      refine GL.nil ?_
      refine GX.then ?_
      refine GC.ret ?_
      refine GX.ret1 rfl (RR.tmp rfl) ?_
      exact fun w9 h => ⟨(), (by rw [decide_eq_true (show FewP os from ⟨h60, fun x hx => by obtain ⟨k, hk, rfl⟩ := List.mem_iff_getElem.1 hx; exact hs k hk (by omega)⟩)]), by
          exact h, trivial⟩
theorem light_b (v : Bool) (d : DirZ) (w : World) (hE : SlR w d.1.1.1 (fcat ecell d.1.2)) (hQ : SlR w d.2.1.1.1 (fcat qzc d.2.1.2)) (hq0 : ∀ q ∈ d.2.1.2, qOk0 q) (hel : ∀ e ∈ d.1.2, e.2.length ≤ 140737488355328) (hl1 : d.1.2.length ≤ 140737488355328) (hl2 : d.2.1.2.length ≤ 140737488355328) (hv : decide (LightP d) = v) : Calls Try.prog 9 [.agg (dcell d).toArray].toArray w fun e w' => ∃ _g : Unit, e = .returned (.bool v) ∧ St noB w w' [] ∧ True := by subst hv; exact light_c d w hE hQ hq0 hel hl1 hl2
theorem few_b (v : Bool) (A : Option Addr) (n c : Nat) (os : List OpZ) (w : World) (hR : SlR w A (fcat ozc os)) (ho0 : ∀ o ∈ os, oOk0 o) (hl : os.length = n) (hv : decide (FewP os) = v) : Calls Try.prog 10 [.slice A n c].toArray w fun e w' => ∃ _g : Unit, e = .returned (.bool v) ∧ St noB w w' [] ∧ True := by subst hv hl; exact few_c A c os w hR ho0
def qwp : Rq := (1, (⟨#[97, 110, 110]⟩ : ByteArray), [107], zdg)
theorem wkm1 : submitP ([], [], 1) qwp = (0, ([], [qwp], 1)) := by decide +kernel
theorem wkm2 : sealP ([], [qwp], 1) = (0, ([[((⟨#[97, 110, 110]⟩ : ByteArray), [107], 1)]], [], 1)) := by decide +kernel
theorem wkm3 : lookP ([[((⟨#[97, 110, 110]⟩ : ByteArray), [107], 1)]], [], 1) (⟨#[97, 110, 110]⟩ : ByteArray) 1 = (0, (1, true, ((⟨#[97, 110, 110]⟩ : ByteArray), [107], 1))) := by decide +kernel
theorem wkm4 : (lookP ([[((⟨#[97, 110, 110]⟩ : ByteArray), [107], 1)]], [], 1) (⟨#[97, 110, 110]⟩ : ByteArray) 2).1 = 10 := by decide +kernel
theorem has_nil (w : World) : Has w [] := fun f hf => by cases hf
theorem has_new (w : World) (r : UInt64) : Has w (dfx (((none, 0), []), ((none, 0), []), r)) := fun f hf => by
  unfold dfx at hf
  simp [fcat] at hf
  rw [hf]; exact .inl rfl
theorem dok_new (r : UInt64) : dOk (((none, 0), []), ((none, 0), []), r) := ⟨fun e h => (by cases h), fun q h => (by cases h), Nat.zero_le _, Nat.zero_le _⟩
theorem has0 {w0 w : World} {Fs : List Pc} {k1 k2 : Nat} {R F1 F2 I : List Fact} (h1 : Sbs R F1 I) (h2 : Sbs I F2 []) (hh : Hd noB w0 w Fs) (e1 : Fs[k1]? = some (Bz.frzN F1)) (e2 : Fs[k2]? = some (Bz.frzN F2)) : Has w R := fun f hf =>
  (h1 f hf).elim (fun h => .inl h) fun h => h.elim (fun h => hh.frzN e1 f h) fun h => h2.has hh e2 (has_nil _) f h
set_option maxRecDepth 100000 in
set_option maxHeartbeats 1000000 in
theorem mworks_c (w : World) : Calls Try.prog 11 [].toArray w fun e w' => ∃ _g : Unit, e = .returned (.bool true) ∧ St noB w w' [] ∧ True := by
  refine GC.calls Try.func11 rfl rfl (St.begin _) ?_
  refine GC.seq ?_
  refine GC.reg ?_
  refine GL.val (rv_assign rfl) rfl ?_
  refine GL.nil ?_
  refine GX.then ?_
  refine GC.seq ?_
  refine GC.reg ?_
  refine GL.step (ot_call hb_15 rfl (callOk fun w hh => mnew_c w) rfl fun _ _ => ?_)
  refine GL.step (ot_buildSlice ei_27 rfl rfl rfl rfl rfl rfl fun b10 => ?_)
  refine GL.step (ot_mark (k := 0) Try.underlying27 Try.underlying5 rfl rfl rfl ?_)
  refine GL.val (rv_to (v' := .agg (qzc ((1 : Int), (⟨#[97, 110, 110]⟩ : ByteArray), ([107] : Sh.B), (some ⟨b10, 0, none⟩, 1), zdg)).toArray) (rv_buildS pl_31 zb_31 rfl rfl rfl) rfl) rfl ?_
  refine GL.step (ot_call hb_23 rfl (callOk fun w hh => submit_c (((none, 0), []), ((none, 0), []), 1) w (has_new _ _) (dok_new _) ((1 : Int), (⟨#[97, 110, 110]⟩ : ByteArray), ([107] : Sh.B), (some ⟨b10, 0, none⟩, 1), zdg) (fun f hf => by obtain rfl := List.mem_singleton.1 hf; exact hh.ro (k := 0) rfl) ⟨(show ((⟨#[97, 110, 110]⟩ : ByteArray)).size < 4611686018427387904 by decide), Nat.le_refl 1, (show ([107] : Sh.B).length ≤ 2000 by decide), zdg_len⟩) rfl fun g13 h13 => ?_)
  obtain ⟨hp13, hs13, ho13⟩ := h13
  rw [show submitP (dpl (((none, 0), []), ((none, 0), []), 1)) (rpl ((1 : Int), (⟨#[97, 110, 110]⟩ : ByteArray), ([107] : Sh.B), (some ⟨b10, 0, none⟩, 1), zdg)) = submitP ([], [], 1) qwp from rfl, wkm1] at hp13
  rw [show submitP (dpl (((none, 0), []), ((none, 0), []), 1)) (rpl ((1 : Int), (⟨#[97, 110, 110]⟩ : ByteArray), ([107] : Sh.B), (some ⟨b10, 0, none⟩, 1), zdg)) = submitP ([], [], 1) qwp from rfl, wkm1]
  refine GL.val (rv_move rfl) rfl ?_
  refine GL.val (rv_extract rfl rfl) rfl ?_
  refine GL.val (rv_extract rfl rfl) rfl ?_
  refine GL.step (ot_alloc (zs := [.slice none 0 0, .slice none 0 0, .int .u64 0]) zb_26 rfl rfl fun b1 => ?_)
  refine GL.step (ot_store (k := 0) rfl rfl rfl rfl sz_26 rfl rfl (show repl _ 0 (dcell g13.1) = dcell g13.1 from rfl) ?_)
  refine GL.val (rv_assign rfl) rfl ?_
  refine GL.nil ?_
  refine GX.then ?_
  refine GC.seq ?_
  refine GC.reg ?_
  refine GL.val (rv_loadA ag_26 rfl (Hd.cells (k := 0) rfl (us := dcell g13.1) rfl) (by exact sz_26)) rfl ?_
  refine GL.step (ot_call hb_24 rfl (callOk fun w hh => seal_c g13.1 w (hs13.has hh (k := 1) rfl (has_nil _)) ho13) rfl fun g18 h18 => ?_)
  obtain ⟨hp18, hs18, ho18⟩ := h18
  rw [hp13, wkm2] at hp18
  rw [hp13, wkm2]
  refine GL.val (rv_move rfl) rfl ?_
  refine GL.val (rv_extract rfl rfl) rfl ?_
  refine GL.val (rv_extract rfl rfl) rfl ?_
  refine GL.step (ot_store (k := 1) rfl rfl rfl rfl sz_26 rfl rfl (show repl _ 0 (dcell g18.1) = dcell g18.1 from rfl) ?_)
  refine GL.val (rv_assign rfl) rfl ?_
  refine GL.nil ?_
  refine GX.then ?_
  refine GC.seq ?_
  refine GC.reg ?_
  refine GL.val (rv_loadA ag_26 rfl (Hd.cells (k := 1) rfl (us := dcell g18.1) rfl) (by exact sz_26)) rfl ?_
  refine GL.step (ot_call hb_20 rfl (callOk fun w hh => look_c g18.1 (⟨#[97, 110, 110]⟩ : ByteArray) 1 w (hs18.has hh (k := 0) rfl (has_nil _)) ho18 (by decide)) rfl fun g23 h23 => ?_)
  obtain ⟨hp23, hs23, _⟩ := h23
  rw [hp18, wkm3] at hp23
  rw [hp18, wkm3]
  obtain ⟨hz1, hz2, hz3⟩ : g23.1.1 = 1 ∧ g23.1.2.1 = true ∧ g23.1.2.2.2.1 = [107] := by unfold fpl bpl at hp23; simp only [Prod.mk.injEq] at hp23; exact ⟨hp23.1, hp23.2.1, hp23.2.2.2.1⟩
  refine GL.val (rv_move rfl) rfl ?_
  refine GL.val (rv_extract rfl rfl) rfl ?_
  refine GL.val (rv_extract rfl rfl) rfl ?_
  refine GL.step (ot_alloc (zs := [.int .u64 0, .bool false, .string ByteArray.empty, .slice none 0 0, .int .u64 0]) zb_55 rfl rfl fun b4 => ?_)
  refine GL.step (ot_store (k := 0) rfl rfl rfl rfl sz_55 rfl rfl (show repl _ 0 (fzc g23.1) = fzc g23.1 from rfl) ?_)
  refine GL.val (rv_assign rfl) rfl ?_
  refine GL.nil ?_
  refine GX.then ?_
  refine GC.seq ?_
  refine GC.reg ?_
  refine GL.val (rv_loadA ag_26 rfl (Hd.cells (k := 3) rfl (us := dcell g18.1) rfl) (by exact sz_26)) rfl ?_
  refine GL.step (ot_call hb_20 rfl (callOk fun w hh => look_c g18.1 (⟨#[97, 110, 110]⟩ : ByteArray) 2 w (hs18.has hh (k := 2) rfl (has_nil _)) ho18 (by decide)) rfl fun g28 h28 => ?_)
  rw [hp18, wkm4]
  refine GL.val (rv_move rfl) rfl ?_
  refine GL.val (rv_extract rfl rfl) rfl ?_
  refine GL.val (rv_extract rfl rfl) rfl ?_
  refine GL.step (ot_alloc (zs := [.int .u64 0, .bool false, .string ByteArray.empty, .slice none 0 0, .int .u64 0]) zb_55 rfl rfl fun b6 => ?_)
  refine GL.step (ot_store (k := 0) rfl rfl rfl rfl sz_55 rfl rfl (show repl _ 0 (fzc g28.1) = fzc g28.1 from rfl) ?_)
  refine GL.val (rv_assign rfl) rfl ?_
  refine GL.nil ?_
  refine GX.then ?_
  refine GC.seq ?_
  refine GC.reg ?_
  refine GL.val (rv_move rfl) rfl ?_
  refine GL.val (rv_to (v' := .bool true) (rv_eqI rfl rfl) (by simp)) rfl ?_
  refine GL.val (rv_move rfl) rfl ?_
  refine GL.valT rfl (rv_move rfl) rfl ?_
  refine GL.valT rfl (rv_to (v' := .bool true) (rv_eqI rfl rfl) (by simp)) rfl ?_
  refine GL.val ((by exact rv_andT rfl rfl rfl)) rfl ?_
  refine GL.val (rv_move rfl) rfl ?_
  refine GL.valT rfl (rv_move rfl) rfl ?_
  refine GL.valT rfl (rv_to (v' := .bool true) (rv_eqI rfl rfl) (by simp)) rfl ?_
  refine GL.val ((by exact rv_andT rfl rfl rfl)) rfl ?_
  refine GL.val (rv_move rfl) rfl ?_
  refine GL.valT rfl (rv_field fo_55_1 rfl rfl) rfl ?_
  refine GL.valT rfl (rv_to (v' := .bool true) (rv_load ag_4 rfl (Hd.cell (k := 2) rfl rfl)) (congrArg Value.bool hz2)) rfl ?_
  refine GL.val ((by exact rv_andT rfl rfl rfl)) rfl ?_
  refine GL.val (rv_move rfl) rfl ?_
  refine GL.valT rfl (rv_field fo_55_2 rfl rfl) rfl ?_
  refine GL.valT rfl (rv_field fo_49_1 rfl rfl) rfl ?_
  refine GL.valT rfl (rv_load ag_27 rfl (Hd.cell (k := 2) rfl rfl)) rfl ?_
  refine GL.valT rfl (rv_convBS (b := [107]) Try.underlying27 Try.underlying5 Try.underlying9 rfl (fun w9 h9 => by have h8 := (has0 hs23 hs18 h9 (k1 := 3) (k2 := 4) rfl rfl) _ (List.mem_singleton.2 rfl); unfold zfx bfx at h8; rwa [hz3] at h8) (by rw [← hz3])) rfl ?_
  refine GL.valT rfl (rv_to (v' := .bool true) (rv_eqS rfl rfl) (by exact congrArg Value.bool (decide_eq_true rfl))) rfl ?_
  refine GL.val ((by exact rv_andT rfl rfl rfl)) rfl ?_
  refine GL.val (rv_move rfl) rfl ?_
  refine GL.valT rfl (rv_move rfl) rfl ?_
  refine GL.valT rfl (rv_to (v' := .bool true) (rv_eqI rfl rfl) (by simp)) rfl ?_
  refine GL.val ((by exact rv_andT rfl rfl rfl)) rfl ?_
  refine GL.val (rv_assign rfl) rfl ?_
  refine GL.nil ?_
  refine GX.then ?_
  refine GC.ret ?_
  refine GX.ret1 rfl (RR.tmp rfl) ?_
  exact fun w9 h => ⟨(), rfl, by
      have h := h.sel [] rfl rfl
      exact h, trivial⟩
end Go.Proofs.Ytkifeeiafachpaa
