import Derived.Test.YtgdbcclammapnaaE
set_option linter.unusedVariables false
set_option linter.unusedSimpArgs false
namespace Go.Proofs.Ytgdbcclammapnaa
open Go Go.RowKit Go.Bz
theorem es_29 : elemSz Try.prog 29 = some 5 := by kernel_rfl
theorem fo_27_2 : fieldOff Try.prog 27 2 = some 2 := by kernel_rfl
/-- an act, as it lies -/
abbrev Ov := (Int × Int) × Ml.Pv
def ocell (o : Ov) : List Value := .int .i64 o.1.1 :: .int .i64 o.1.2 :: Ml.pcell o.2
def ocs (os : List Ov) : List Value := os.flatMap ocell
theorem ocs_len (os : List Ov) : (ocs os).length = os.length * 5 := by
  induction os with
  | nil => rfl
  | cons q os ih => simp only [ocs, List.flatMap_cons, List.length_append, ocell, Ml.pcell, List.length_cons, List.length_nil] at *; omega
theorem ocs_get : ∀ (os : List Ov) (j : Nat) (h : j < os.length) (i : Nat), i < 5 → (ocs os)[j * 5 + i]? = (ocell os[j])[i]?
  | q :: os, 0, h, i, hi => by
    show (ocell q ++ ocs os)[0 * 5 + i]? = _
    rw [List.getElem?_append_left (by simp [ocell, Ml.pcell]; omega)]; simp
  | q :: os, j + 1, h, i, hi => by
    show (ocell q ++ ocs os)[(j + 1) * 5 + i]? = _
    rw [List.getElem?_append_right (by simp [ocell, Ml.pcell]; omega), show (j + 1) * 5 + i - (ocell q).length = j * 5 + i by simp [ocell, Ml.pcell]; omega]
    rw [ocs_get os j (by simpa using h) i hi]; simp
theorem ocC {w : World} {b o j : Nat} {os : List Ov} (hC : Cells w b o (ocs os)) (h : j < os.length) : Cells w b (o + j * 5) (ocell os[j]) := fun i u hu => by
  have hi : i < 5 := by have := (List.getElem?_eq_some_iff.1 hu).1; simpa [ocell, Ml.pcell] using this
  rw [Nat.add_assoc]; exact hC (j * 5 + i) u (by rw [ocs_get os j h i hi]; exact hu)
theorem oc4 {w : World} {b o j : Nat} {os : List Ov} (hC : Cells w b o (ocs os)) (h : j < os.length) : w.cell? ⟨b, o + j * 5 + 2 + 2, none⟩ = some (.slice os[j].2.2.1 os[j].2.1.2.2.length os[j].2.2.2) := hC (j * 5 + 4) _ (ocs_get os j h 4 (by omega))
theorem oHead {A : Option Addr} {os : List Ov} {w : World} (hR : SlR w A (ocs os)) : os.length = 0 ∨ ∃ b o, A = some ⟨b, o, none⟩ ∧ Cells w b o (ocs os) := hR.imp (fun h => by have := congrArg List.length h; rw [ocs_len] at this; simp only [List.length_nil] at this; omega) id
def sb (l : List Nat) : Nat := l.sum
theorem sb_take (l : List Nat) (j : Nat) (h : j < l.length) : sb (l.take (j + 1)) = sb (l.take j) + l[j] := by
  unfold sb; rw [Ml.take_succ' l j h, List.sum_append]; simp
abbrev bl (ps : List Ml.Pv) : List Nat := ps.map fun q => q.1.2.2.length
abbrev ob (os : List Ov) : List Nat := os.map fun o => o.2.1.2.2.length
set_option maxRecDepth 100000 in
set_option maxHeartbeats 1000000 in
theorem light_c (A B : Option Addr) (n m c d : Nat) (ps : List Ml.Pv) (os : List Ov) (w : World) (hR : SlR w A (Ml.pcs ps)) (hR' : SlR w B (ocs os)) (hl : ps.length = n) (hl' : os.length = m)
    (hb : ∀ q ∈ ps, q.1.2.2.length ≤ 140737488351232) (ho : ∀ o ∈ os, o.2.1.2.2.length ≤ 140737488351232) :
    Calls Try.prog 7 [.slice A n c, .slice B m d].toArray w fun e w' => ∃ b : Bool, e = .returned (.bool b) ∧ St noB w w' [] ∧ (b = true → ps.length ≤ 600 ∧ os.length ≤ 60 ∧ sb (bl ps) + sb (ob os) ≤ 65536) := by
  refine GC.calls Try.func7 rfl rfl (St.begin _) ?_
  subst hl
  subst hl'
  have HA := Ml.pHead hR
  have HB := oHead hR'
  refine GC.seq ?_
  refine GC.reg ?_
  refine GL.val (rv_assign rfl) rfl ?_
  refine GL.nil ?_
  refine GX.then ?_
  refine GC.seq ?_
  refine GC.seq ?_
  refine GC.cutr ([(0, .slice A ps.length c), (1, .slice B os.length d), (15, .bool (decide (600 < ps.length ∨ 60 < os.length)))]) ([]) ?_ ?_
  · rcases (by omega : 600 < ps.length ∨ (ps.length ≤ 600 ∧ 60 < os.length) ∨ (ps.length ≤ 600 ∧ os.length ≤ 60)) with h | h | h
    · have e : decide (600 < ps.length ∨ 60 < os.length) = true := decide_eq_true (by omega)
      rw [e]
      refine GC.reg ?_
      refine GL.val (rv_move rfl) rfl ?_
      refine GL.val (rv_lenSl Try.underlying22 rfl) rfl ?_
      refine GL.val ((by first | exact rv_to (v' := .bool true) (rv_gtr rfl rfl) (by simp only [Value.bool.injEq, decide_eq_true_eq, decide_eq_false_iff_not]; omega) | exact rv_to (v' := .bool false) (rv_gtr rfl rfl) (by simp only [Value.bool.injEq, decide_eq_true_eq, decide_eq_false_iff_not]; omega))) rfl ?_
      refine GL.val (rv_move rfl) rfl ?_
      first | refine GL.skipG rfl rfl ?_ | refine GL.skipU rfl rfl ?_ | refine GL.valT rfl (rv_move rfl) rfl ?_ | refine GL.valG rfl (fun hb => rv_move (by first | exact evb rfl hb | rfl)) rfl ?_
      first | refine GL.skipG rfl rfl ?_ | refine GL.skipU rfl rfl ?_ | refine GL.valT rfl (rv_lenSl Try.underlying29 rfl) rfl ?_ | refine GL.valG rfl (fun hb => rv_lenSl Try.underlying29 (by first | exact evb rfl hb | rfl)) rfl ?_
      first | refine GL.skipG rfl rfl ?_ | refine GL.skipU rfl rfl ?_ | refine GL.valT rfl ((by first | exact rv_to (v' := .bool true) (rv_gtr rfl rfl) (by simp only [Value.bool.injEq, decide_eq_true_eq, decide_eq_false_iff_not]; omega) | exact rv_to (v' := .bool false) (rv_gtr rfl rfl) (by simp only [Value.bool.injEq, decide_eq_true_eq, decide_eq_false_iff_not]; omega))) rfl ?_ | refine GL.valG rfl (fun hb => (by first | exact rv_to (v' := .bool true) (rv_gtr (by first | exact evb rfl hb | rfl) (by first | exact evb rfl hb | rfl)) (by simp only [Value.bool.injEq, decide_eq_true_eq, decide_eq_false_iff_not]; omega) | exact rv_to (v' := .bool false) (rv_gtr (by first | exact evb rfl hb | rfl) (by first | exact evb rfl hb | rfl)) (by simp only [Value.bool.injEq, decide_eq_true_eq, decide_eq_false_iff_not]; omega))) rfl ?_
      refine GL.val ((by first | exact rv_orF rfl rfl rfl | exact rv_orT rfl rfl rfl | exact rv_pickOr rfl rfl rfl)) rfl ?_
      refine GL.nil ?_
      exact GX.cut (by repeat (first | exact Sub.nil | refine Sub.cons rfl ?_)) (fun w h => h)
    · have e : decide (600 < ps.length ∨ 60 < os.length) = true := decide_eq_true (by omega)
      rw [e]
      refine GC.reg ?_
      refine GL.val (rv_move rfl) rfl ?_
      refine GL.val (rv_lenSl Try.underlying22 rfl) rfl ?_
      refine GL.val ((by first | exact rv_to (v' := .bool true) (rv_gtr rfl rfl) (by simp only [Value.bool.injEq, decide_eq_true_eq, decide_eq_false_iff_not]; omega) | exact rv_to (v' := .bool false) (rv_gtr rfl rfl) (by simp only [Value.bool.injEq, decide_eq_true_eq, decide_eq_false_iff_not]; omega))) rfl ?_
      refine GL.val (rv_move rfl) rfl ?_
      first | refine GL.skipG rfl rfl ?_ | refine GL.skipU rfl rfl ?_ | refine GL.valT rfl (rv_move rfl) rfl ?_ | refine GL.valG rfl (fun hb => rv_move (by first | exact evb rfl hb | rfl)) rfl ?_
      first | refine GL.skipG rfl rfl ?_ | refine GL.skipU rfl rfl ?_ | refine GL.valT rfl (rv_lenSl Try.underlying29 rfl) rfl ?_ | refine GL.valG rfl (fun hb => rv_lenSl Try.underlying29 (by first | exact evb rfl hb | rfl)) rfl ?_
      first | refine GL.skipG rfl rfl ?_ | refine GL.skipU rfl rfl ?_ | refine GL.valT rfl ((by first | exact rv_to (v' := .bool true) (rv_gtr rfl rfl) (by simp only [Value.bool.injEq, decide_eq_true_eq, decide_eq_false_iff_not]; omega) | exact rv_to (v' := .bool false) (rv_gtr rfl rfl) (by simp only [Value.bool.injEq, decide_eq_true_eq, decide_eq_false_iff_not]; omega))) rfl ?_ | refine GL.valG rfl (fun hb => (by first | exact rv_to (v' := .bool true) (rv_gtr (by first | exact evb rfl hb | rfl) (by first | exact evb rfl hb | rfl)) (by simp only [Value.bool.injEq, decide_eq_true_eq, decide_eq_false_iff_not]; omega) | exact rv_to (v' := .bool false) (rv_gtr (by first | exact evb rfl hb | rfl) (by first | exact evb rfl hb | rfl)) (by simp only [Value.bool.injEq, decide_eq_true_eq, decide_eq_false_iff_not]; omega))) rfl ?_
      refine GL.val ((by first | exact rv_orF rfl rfl rfl | exact rv_orT rfl rfl rfl | exact rv_pickOr rfl rfl rfl)) rfl ?_
      refine GL.nil ?_
      exact GX.cut (by repeat (first | exact Sub.nil | refine Sub.cons rfl ?_)) (fun w h => h)
    · have e : decide (600 < ps.length ∨ 60 < os.length) = false := decide_eq_false (by omega)
      rw [e]
      refine GC.reg ?_
      refine GL.val (rv_move rfl) rfl ?_
      refine GL.val (rv_lenSl Try.underlying22 rfl) rfl ?_
      refine GL.val ((by first | exact rv_to (v' := .bool true) (rv_gtr rfl rfl) (by simp only [Value.bool.injEq, decide_eq_true_eq, decide_eq_false_iff_not]; omega) | exact rv_to (v' := .bool false) (rv_gtr rfl rfl) (by simp only [Value.bool.injEq, decide_eq_true_eq, decide_eq_false_iff_not]; omega))) rfl ?_
      refine GL.val (rv_move rfl) rfl ?_
      first | refine GL.skipG rfl rfl ?_ | refine GL.skipU rfl rfl ?_ | refine GL.valT rfl (rv_move rfl) rfl ?_ | refine GL.valG rfl (fun hb => rv_move (by first | exact evb rfl hb | rfl)) rfl ?_
      first | refine GL.skipG rfl rfl ?_ | refine GL.skipU rfl rfl ?_ | refine GL.valT rfl (rv_lenSl Try.underlying29 rfl) rfl ?_ | refine GL.valG rfl (fun hb => rv_lenSl Try.underlying29 (by first | exact evb rfl hb | rfl)) rfl ?_
      first | refine GL.skipG rfl rfl ?_ | refine GL.skipU rfl rfl ?_ | refine GL.valT rfl ((by first | exact rv_to (v' := .bool true) (rv_gtr rfl rfl) (by simp only [Value.bool.injEq, decide_eq_true_eq, decide_eq_false_iff_not]; omega) | exact rv_to (v' := .bool false) (rv_gtr rfl rfl) (by simp only [Value.bool.injEq, decide_eq_true_eq, decide_eq_false_iff_not]; omega))) rfl ?_ | refine GL.valG rfl (fun hb => (by first | exact rv_to (v' := .bool true) (rv_gtr (by first | exact evb rfl hb | rfl) (by first | exact evb rfl hb | rfl)) (by simp only [Value.bool.injEq, decide_eq_true_eq, decide_eq_false_iff_not]; omega) | exact rv_to (v' := .bool false) (rv_gtr (by first | exact evb rfl hb | rfl) (by first | exact evb rfl hb | rfl)) (by simp only [Value.bool.injEq, decide_eq_true_eq, decide_eq_false_iff_not]; omega))) rfl ?_
      refine GL.val ((by first | exact rv_orF rfl rfl rfl | exact rv_orT rfl rfl rfl | exact rv_pickOr rfl rfl rfl)) rfl ?_
      refine GL.nil ?_
      exact GX.cut (by repeat (first | exact Sub.nil | refine Sub.cons rfl ?_)) (fun w h => h)
  refine GX.then ?_
  first | refine GC.condP rfl (fun c1 => ?_) (fun c1 => ?_) | refine GC.cond rfl (fun c1 => ?_) (fun c1 => ?_)
  · refine GC.seq ?_
    refine GC.reg ?_
    refine GL.val (rv_assign rfl) rfl ?_
    refine GL.nil ?_
    refine GX.then ?_
    refine GC.ret ?_
    refine GX.then_ret ?_
    refine GX.ret1 rfl (RR.tmp rfl) ?_
    exact fun w h => ⟨false, rfl, h, fun h => by cases h⟩
  · refine GC.skip ?_
    refine GX.then ?_
    refine GC.seq ?_
    refine GC.reg ?_
    refine GL.val (rv_assign rfl) rfl ?_
    refine GL.nil ?_
    refine GX.then ?_
    refine GC.seq ?_
    refine GC.seq ?_
    refine GC.reg ?_
    refine GL.val (rv_assign rfl) rfl ?_
    refine GL.nil ?_
    refine GX.then ?_
    refine GC.block ?_
    refine GC.loop (γ := Nat) (fun j => [(0, .slice A ps.length c), (1, .slice B os.length d), (5, .int .i64 (sb ((bl ps).take j) : Int)), (6, .int .i64 (j : Int))]) (fun _ => []) (fun j => j ≤ ps.length) (fun j => ps.length - j) (0) (Nat.zero_le _) (by repeat (first | exact Sub.nil | refine Sub.cons rfl ?_)) (fun w h => h) (fun j hj => ?_)
    refine GC.seq ?_
    refine GC.seq ?_
    refine GC.reg ?_
    refine GL.val (rv_move rfl) rfl ?_
    refine GL.val (rv_move rfl) rfl ?_
    refine GL.val (rv_lenSl Try.underlying22 rfl) rfl ?_
    refine GL.val (rv_lss rfl rfl) rfl ?_
    refine GL.val (rv_move rfl) rfl ?_
    first | refine GL.skipG rfl rfl ?_ | refine GL.skipU rfl rfl ?_ | refine GL.valT rfl (rv_move rfl) rfl ?_ | refine GL.valG rfl (fun hb => rv_move (by first | exact evb rfl hb | rfl)) rfl ?_
    first | refine GL.skipG rfl rfl ?_ | refine GL.skipU rfl rfl ?_ | refine GL.valT rfl (rv_leq rfl rfl) rfl ?_ | refine GL.valG rfl (fun hb => rv_leq (by first | exact evb rfl hb | rfl) (by first | exact evb rfl hb | rfl)) rfl ?_
    refine GL.val ((by first | exact rv_andT rfl rfl rfl | exact rv_andF rfl rfl rfl | exact rv_pickAnd rfl rfl rfl)) rfl ?_
    refine GL.nil ?_
    refine GX.then ?_
    first | refine GC.condP rfl (fun c2 => ?_) (fun c2 => ?_) | refine GC.cond rfl (fun c2 => ?_) (fun c2 => ?_)
    · have c2 : j < ps.length ∧ sb ((bl ps).take j) ≤ 65536 := by simp at c2; exact ⟨by omega, by omega⟩
      have hlt := c2.1
      have hq := hb _ (List.getElem_mem hlt)
      obtain ⟨b, o, rfl, hC⟩ := HA.resolve_left (by omega)
      refine GC.skip ?_
      refine GX.then ?_
      refine GC.seq ?_
      refine GC.block ?_
      refine GC.reg ?_
      refine GL.val (rv_move rfl) rfl ?_
      refine GL.val (rv_move rfl) rfl ?_
      refine GL.val (rv_move rfl) rfl ?_
      refine GL.val (rv_elem es_22 rfl rfl (by omega) (by omega)) rfl ?_
      refine GL.val (rv_field fo_25_2 rfl rfl) rfl ?_
      refine GL.val (rv_load ag_23 rfl (Hd.cell0 (Ml.pc2 hC hlt) (fun h => h))) rfl ?_
      refine GL.val (rv_lenSl Try.underlying23 rfl) rfl ?_
      refine GL.val (rv_add rfl rfl (by omega) (by omega)) rfl ?_
      refine GL.val (rv_assign rfl) rfl ?_
      refine GL.nil ?_
      refine GX.blk ?_
      refine GX.then ?_
      refine GC.reg ?_
      refine GL.val (rv_move rfl) rfl ?_
      refine GL.val (rv_add rfl rfl (by omega) (by omega)) rfl ?_
      refine GL.val (rv_assign rfl) rfl ?_
      refine GL.nil ?_
      have e := sb_take (bl ps) j (by simpa using hlt)
      simp only [List.getElem_map] at e
      exact GX.round (j + 1) (by omega) (by omega) (by rw [e]; simp only [Int.natCast_add]; exact (by repeat (first | exact Sub.nil | refine Sub.cons rfl ?_))) (fun w h => h)
    · have c2 : ¬ (j < ps.length ∧ sb ((bl ps).take j) ≤ 65536) := by intro hh; simp at c2; omega
      refine GC.exit ?_
      refine GX.then_exit ?_
      refine GX.then_exit ?_
      refine GX.blk_eq ?_
      refine GX.then ?_
      refine GC.seq ?_
      refine GC.seq ?_
      refine GC.reg ?_
      refine GL.val (rv_assign rfl) rfl ?_
      refine GL.nil ?_
      refine GX.then ?_
      refine GC.block ?_
      refine GC.loop (γ := Nat) (fun i => [(1, .slice B os.length d), (5, .int .i64 ((sb ((bl ps).take j) : Int) + (sb ((ob os).take i) : Int))), (7, .int .i64 (i : Int))]) (fun _ => []) (fun i => i ≤ os.length) (fun i => os.length - i) (0) (Nat.zero_le _) (Bz.Sub.cons rfl (Bz.Sub.cons (by rw [show ((sb ((ob os).take 0) : Nat) : Int) = 0 from rfl, Int.add_zero]; rfl) (Bz.Sub.cons rfl Bz.Sub.nil))) (fun w h => h) (fun i hi => ?_)
      refine GC.seq ?_
      refine GC.seq ?_
      refine GC.reg ?_
      refine GL.val (rv_move rfl) rfl ?_
      refine GL.val (rv_move rfl) rfl ?_
      refine GL.val (rv_lenSl Try.underlying29 rfl) rfl ?_
      refine GL.val (rv_lss rfl rfl) rfl ?_
      refine GL.val (rv_move rfl) rfl ?_
      first | refine GL.skipG rfl rfl ?_ | refine GL.skipU rfl rfl ?_ | refine GL.valT rfl (rv_move rfl) rfl ?_ | refine GL.valG rfl (fun hb => rv_move (by first | exact evb rfl hb | rfl)) rfl ?_
      first | refine GL.skipG rfl rfl ?_ | refine GL.skipU rfl rfl ?_ | refine GL.valT rfl (rv_leq rfl rfl) rfl ?_ | refine GL.valG rfl (fun hb => rv_leq (by first | exact evb rfl hb | rfl) (by first | exact evb rfl hb | rfl)) rfl ?_
      refine GL.val ((by first | exact rv_andT rfl rfl rfl | exact rv_andF rfl rfl rfl | exact rv_pickAnd rfl rfl rfl)) rfl ?_
      refine GL.nil ?_
      refine GX.then ?_
      first | refine GC.condP rfl (fun c3 => ?_) (fun c3 => ?_) | refine GC.cond rfl (fun c3 => ?_) (fun c3 => ?_)
      · have c3 : i < os.length ∧ sb ((bl ps).take j) + sb ((ob os).take i) ≤ 65536 := by simp at c3; exact ⟨by omega, by omega⟩
        have hlt := c3.1
        have hq := ho _ (List.getElem_mem hlt)
        obtain ⟨b, o, rfl, hC⟩ := HB.resolve_left (by omega)
        refine GC.skip ?_
        refine GX.then ?_
        refine GC.seq ?_
        refine GC.block ?_
        refine GC.reg ?_
        refine GL.val (rv_move rfl) rfl ?_
        refine GL.val (rv_move rfl) rfl ?_
        refine GL.val (rv_move rfl) rfl ?_
        refine GL.val (rv_elem es_29 rfl rfl (by omega) (by omega)) rfl ?_
        refine GL.val (rv_field fo_27_2 rfl rfl) rfl ?_
        refine GL.val (rv_field fo_25_2 rfl rfl) rfl ?_
        refine GL.val (rv_load ag_23 rfl (Hd.cell0 (oc4 hC hlt) (fun h => h))) rfl ?_
        refine GL.val (rv_lenSl Try.underlying23 rfl) rfl ?_
        refine GL.val (rv_add rfl rfl (by omega) (by omega)) rfl ?_
        refine GL.val (rv_assign rfl) rfl ?_
        refine GL.nil ?_
        refine GX.blk ?_
        refine GX.then ?_
        refine GC.reg ?_
        refine GL.val (rv_move rfl) rfl ?_
        refine GL.val (rv_add rfl rfl (by omega) (by omega)) rfl ?_
        refine GL.val (rv_assign rfl) rfl ?_
        refine GL.nil ?_
        have e := sb_take (ob os) i (by simpa using hlt)
        simp only [List.getElem_map] at e
        exact GX.round (i + 1) (by omega) (by omega) (by rw [e]; simp only [Int.natCast_add, ← Int.add_assoc]; exact (by repeat (first | exact Sub.nil | refine Sub.cons rfl ?_))) (fun w h => h)
      · have c3 : ¬ (i < os.length ∧ sb ((bl ps).take j) + sb ((ob os).take i) ≤ 65536) := by intro hh; simp at c3; omega
        refine GC.exit ?_
        refine GX.then_exit ?_
        refine GX.then_exit ?_
        refine GX.blk_eq ?_
        refine GX.then ?_
        refine GC.seq ?_
        refine GC.reg ?_
        refine GL.val (rv_move rfl) rfl ?_
        refine GL.val (rv_leq rfl rfl) rfl ?_
        refine GL.val (rv_assign rfl) rfl ?_
        refine GL.nil ?_
        refine GX.then ?_
        refine GC.ret ?_
        refine GX.ret1 rfl (RR.tmp rfl) ?_
        exact fun w h => ⟨_, rfl, h, fun hb => by
          have hb := of_decide_eq_true hb
          have e1 : j = ps.length := by omega
          have e2 : i = os.length := by omega
          rw [e1, e2, List.take_of_length_le (by simp), List.take_of_length_le (by simp)] at hb
          omega⟩
end Go.Proofs.Ytgdbcclammapnaa
