import Derived.Test.YtgdbcclammapnaaLaw25
import Derived.Test.YtgdbcclammapnaaRows
set_option linter.unusedVariables false
set_option linter.unusedSimpArgs false
namespace Go.Proofs.Ytgdbcclammapnaa
open Go Go.RowKit Go.Bz
theorem ag_23 : aggB Try.prog 23 = some false := by kernel_rfl
theorem ag_25 : aggB Try.prog 25 = some true := by kernel_rfl
theorem ag_3 : aggB Try.prog 3 = some false := by kernel_rfl
theorem ei_22 : elemInfo Try.prog 22 = some (25, 3, 40) := by kernel_rfl
theorem ei_23 : elemInfo Try.prog 23 = some (5, 1, 1) := by kernel_rfl
theorem es_22 : elemSz Try.prog 22 = some 3 := by kernel_rfl
theorem fo_25_1 : fieldOff Try.prog 25 1 = some 1 := by kernel_rfl
theorem fo_25_2 : fieldOff Try.prog 25 2 = some 2 := by kernel_rfl
theorem hb_22 : hasBody Try.prog 22 = true := by kernel_rfl
theorem hb_26 : hasBody Try.prog 26 = true := by kernel_rfl
theorem sz_23 : (Try.prog.info? 23).map (·.size) = some 1 := by kernel_rfl
theorem sz_25 : (Try.prog.info? 25).map (·.size) = some 3 := by kernel_rfl
theorem zb_25 : zeroB Try.prog 25 = some (.agg #[.int .i64 0, .int .i64 0, .slice none 0 0]) := by kernel_rfl
set_option maxRecDepth 100000 in
set_option maxHeartbeats 1000000 in
theorem for_c (A : Option Addr) (n c : Nat) (ps : List Ml.Pv) (w : World) (hR : ∀ f ∈ Ml.pfs A ps, SlR w f.1 f.2) (hl : ps.length = n) (hn : n ≤ 1000000) (to : Int) :
    Calls Try.prog 10 [.slice A n c, .int .i64 to].toArray w fun e w' => ∃ _g : Unit, e = .returned (.int .i64 (Ml.cnt (Ml.pl ps) to : Int)) ∧ St noB w w' [] ∧ True := by
  refine GC.calls Try.func10 rfl rfl (St.begin _) ?_
  subst hl
  have HA := Ml.pHead (hR (A, Ml.pcs ps) (List.mem_cons_self ..))
  refine GC.seq ?_
  refine GC.reg ?_
  refine GL.val (rv_assign rfl) rfl ?_
  refine GL.nil ?_
  refine GX.then ?_
  refine GC.seq ?_
  refine GC.reg ?_
  refine GL.val (rv_assign rfl) rfl ?_
  refine GL.nil ?_
  refine GX.then ?_
  refine GC.seq ?_
  refine GC.seq ?_
  refine GC.reg ?_
  refine GL.val (rv_move rfl) rfl ?_
  refine GL.val (rv_lenSl Try.underlying22 rfl) rfl ?_
  refine GL.val (rv_move rfl) rfl ?_
  refine GL.nil ?_
  refine GX.then ?_
  refine GC.block ?_
  refine GC.loop (γ := Nat) (fun j => [(1, .int .i64 to), (5, .int .i64 (Ml.cnt ((Ml.pl ps).take j) to : Int)), (8, .slice A ps.length c), (9, .int .i64 (ps.length : Int)), (10, .int .i64 (j : Int))]) (fun _ => []) (fun j => j ≤ ps.length) (fun j => ps.length - j) (0) (Nat.zero_le _) (by repeat (first | exact Sub.nil | refine Sub.cons rfl ?_)) (fun w h => h) (fun j hj => ?_)
  refine GC.seq ?_
  refine GC.reg ?_
  refine GL.val (rv_lss rfl rfl) rfl ?_
  refine GL.nil ?_
  refine GX.then ?_
  refine GC.seq ?_
  first | refine GC.condP rfl (fun c1 => ?_) (fun c1 => ?_) | refine GC.cond rfl (fun c1 => ?_) (fun c1 => ?_)
  · have hlt : j < ps.length := by omega
    obtain ⟨b, o, rfl, hC⟩ := HA.resolve_left (by omega)
    have hcl := Nat.le_trans (Ml.cnt_le ((Ml.pl ps).take j) to) (List.length_take_le _ _)
    refine GC.skip ?_
    refine GX.then ?_
    refine GC.seq ?_
    refine GC.block ?_
    refine GC.seq ?_
    refine GC.reg ?_
    refine GL.val (rv_elem es_22 rfl rfl (by omega) (by omega)) rfl ?_
    refine GL.val (rv_loadA ag_25 rfl (Hd.cells0 (Ml.pcC hC hlt) (fun h => h)) (by exact sz_25)) rfl ?_
    refine GL.step (ot_alloc (zs := [.int .i64 0, .int .i64 0, .slice none 0 0]) zb_25 rfl rfl fun b7 => ?_)
    first | refine GL.step (ot_store (k := 0) rfl rfl rfl rfl sz_25 rfl rfl (by first | ((simp only [repl, List.set_cons_zero, List.set_cons_succ]) <;> rfl) | rfl) ?_)
    refine GL.nil ?_
    refine GX.then ?_
    refine GC.seq ?_
    refine GC.reg ?_
    refine GL.val (rv_field fo_25_1 rfl rfl) rfl ?_
    refine GL.val (rv_load ag_3 rfl (by first | exact Hd.cell (k := 0) rfl rfl | exact Hd.rowCell (k := 0) rfl (by assumption) | exact Hd.cell0 (by assumption) (by first | exact fun h => h | assumption))) rfl ?_
    refine GL.val (rv_move rfl) rfl ?_
    refine GL.val (rv_eqI rfl rfl) rfl ?_
    refine GL.nil ?_
    refine GX.then ?_
    first | refine GC.condP rfl (fun c2 => ?_) (fun c2 => ?_) | refine GC.cond rfl (fun c2 => ?_) (fun c2 => ?_)
    · refine GC.reg ?_
      refine GL.val (rv_move rfl) rfl ?_
      refine GL.val (rv_add rfl rfl (by omega) (by omega)) rfl ?_
      refine GL.val (rv_assign rfl) rfl ?_
      refine GL.nil ?_
      refine GX.blk ?_
      refine GX.then ?_
      refine GC.reg ?_
      refine GL.val (rv_add rfl rfl (by omega) (by omega)) rfl ?_
      refine GL.val (rv_move rfl) rfl ?_
      refine GL.nil ?_
      have e := Ml.cnt_take (Ml.pl ps) to j (by rw [Ml.pl_len]; exact hlt)
      rw [Ml.pl_get ps j hlt] at e
      rw [if_pos c2] at e
      exact GX.round (j + 1) (by omega) (by omega) (by rw [e, Int.natCast_add]; exact (by repeat (first | exact Sub.nil | refine Sub.cons rfl ?_))) (fun w h => h.take 0)
    · refine GC.skip ?_
      refine GX.blk ?_
      refine GX.then ?_
      refine GC.reg ?_
      refine GL.val (rv_add rfl rfl (by omega) (by omega)) rfl ?_
      refine GL.val (rv_move rfl) rfl ?_
      refine GL.nil ?_
      have e := Ml.cnt_take (Ml.pl ps) to j (by rw [Ml.pl_len]; exact hlt)
      rw [Ml.pl_get ps j hlt] at e
      rw [if_neg c2] at e
      exact GX.round (j + 1) (by omega) (by omega) (by rw [e, Nat.add_zero]; exact (by repeat (first | exact Sub.nil | refine Sub.cons rfl ?_))) (fun w h => h.take 0)
  · obtain rfl : j = ps.length := by omega
    have e : (Ml.pl ps).take ps.length = Ml.pl ps := List.take_of_length_le (by rw [Ml.pl_len]; exact Nat.le_refl _)
    refine GC.exit ?_
    refine GX.then_exit ?_
    refine GX.then_exit ?_
    refine GX.blk_eq ?_
    refine GX.then ?_
    refine GC.seq ?_
    refine GC.reg ?_
    refine GL.val (rv_move rfl) rfl ?_
    refine GL.val (rv_assign rfl) rfl ?_
    refine GL.nil ?_
    refine GX.then ?_
    refine GC.ret ?_
    refine GX.ret1 rfl (RR.tmp rfl) ?_
    exact fun w h => ⟨(), by rw [e], h, trivial⟩
set_option maxRecDepth 100000 in
set_option maxHeartbeats 1000000 in
theorem rfor_c (A : Option Addr) (n c : Nat) (ps : List Ml.Pv) (w : World) (hR : ∀ f ∈ Ml.pfs A ps, SlR w f.1 f.2) (hl : ps.length = n) (hn : n ≤ 1000000) (to : Int) :
    Calls Try.prog 11 [.slice A n c, .int .i64 to].toArray w fun e w' => ∃ _g : Unit, e = .returned (.int .i64 (Ml.cnt (Ml.pl ps) to : Int)) ∧ St noB w w' [] ∧ True := by
  refine GC.calls Try.func11 rfl rfl (St.begin _) ?_
  subst hl
  have HA := Ml.pHead (hR (A, Ml.pcs ps) (List.mem_cons_self ..))
  refine GC.seq ?_
  refine GC.reg ?_
  refine GL.val (rv_assign rfl) rfl ?_
  refine GL.nil ?_
  refine GX.then ?_
  refine GC.seq ?_
  refine GC.reg ?_
  refine GL.val (rv_assign rfl) rfl ?_
  refine GL.nil ?_
  refine GX.then ?_
  refine GC.seq ?_
  refine GC.seq ?_
  refine GC.reg ?_
  refine GL.val (rv_assign rfl) rfl ?_
  refine GL.nil ?_
  refine GX.then ?_
  refine GC.block ?_
  refine GC.loop (γ := Nat) (fun j => [(0, .slice A ps.length c), (1, .int .i64 to), (5, .int .i64 (Ml.cnt ((Ml.pl ps).take j) to : Int)), (6, .int .i64 (j : Int))]) (fun _ => []) (fun j => j ≤ ps.length) (fun j => ps.length - j) (0) (Nat.zero_le _) (by repeat (first | exact Sub.nil | refine Sub.cons rfl ?_)) (fun w h => h) (fun j hj => ?_)
  refine GC.seq ?_
  refine GC.seq ?_
  refine GC.reg ?_
  refine GL.val (rv_move rfl) rfl ?_
  refine GL.val (rv_move rfl) rfl ?_
  refine GL.val (rv_lenSl Try.underlying22 rfl) rfl ?_
  refine GL.val (rv_lss rfl rfl) rfl ?_
  refine GL.nil ?_
  refine GX.then ?_
  first | refine GC.condP rfl (fun c1 => ?_) (fun c1 => ?_) | refine GC.cond rfl (fun c1 => ?_) (fun c1 => ?_)
  · have hlt : j < ps.length := by omega
    obtain ⟨b, o, rfl, hC⟩ := HA.resolve_left (by omega)
    have hcl := Nat.le_trans (Ml.cnt_le ((Ml.pl ps).take j) to) (List.length_take_le _ _)
    refine GC.skip ?_
    refine GX.then ?_
    refine GC.seq ?_
    refine GC.block ?_
    refine GC.seq ?_
    refine GC.reg ?_
    refine GL.val (rv_move rfl) rfl ?_
    refine GL.val (rv_move rfl) rfl ?_
    refine GL.val (rv_elem es_22 rfl rfl (by omega) (by omega)) rfl ?_
    refine GL.val (rv_field fo_25_1 rfl rfl) rfl ?_
    refine GL.val (rv_load ag_3 rfl (Hd.cell0 (Ml.pc1 hC hlt) (fun h => h))) rfl ?_
    refine GL.val (rv_move rfl) rfl ?_
    refine GL.val (rv_eqI rfl rfl) rfl ?_
    refine GL.nil ?_
    refine GX.then ?_
    first | refine GC.condP rfl (fun c2 => ?_) (fun c2 => ?_) | refine GC.cond rfl (fun c2 => ?_) (fun c2 => ?_)
    · refine GC.reg ?_
      refine GL.val (rv_move rfl) rfl ?_
      refine GL.val (rv_add rfl rfl (by omega) (by omega)) rfl ?_
      refine GL.val (rv_assign rfl) rfl ?_
      refine GL.nil ?_
      refine GX.blk ?_
      refine GX.then ?_
      refine GC.reg ?_
      refine GL.val (rv_move rfl) rfl ?_
      refine GL.val (rv_add rfl rfl (by omega) (by omega)) rfl ?_
      refine GL.val (rv_assign rfl) rfl ?_
      refine GL.nil ?_
      have e := Ml.cnt_take (Ml.pl ps) to j (by rw [Ml.pl_len]; exact hlt)
      rw [Ml.pl_get ps j hlt] at e
      rw [if_pos c2] at e
      exact GX.round (j + 1) (by omega) (by omega) (by rw [e, Int.natCast_add]; exact (by repeat (first | exact Sub.nil | refine Sub.cons rfl ?_))) (fun w h => h)
    · refine GC.skip ?_
      refine GX.blk ?_
      refine GX.then ?_
      refine GC.reg ?_
      refine GL.val (rv_move rfl) rfl ?_
      refine GL.val (rv_add rfl rfl (by omega) (by omega)) rfl ?_
      refine GL.val (rv_assign rfl) rfl ?_
      refine GL.nil ?_
      have e := Ml.cnt_take (Ml.pl ps) to j (by rw [Ml.pl_len]; exact hlt)
      rw [Ml.pl_get ps j hlt] at e
      rw [if_neg c2] at e
      exact GX.round (j + 1) (by omega) (by omega) (by rw [e, Nat.add_zero]; exact (by repeat (first | exact Sub.nil | refine Sub.cons rfl ?_))) (fun w h => h)
  · obtain rfl : j = ps.length := by omega
    have e : (Ml.pl ps).take ps.length = Ml.pl ps := List.take_of_length_le (by rw [Ml.pl_len]; exact Nat.le_refl _)
    refine GC.exit ?_
    refine GX.then_exit ?_
    refine GX.then_exit ?_
    refine GX.blk_eq ?_
    refine GX.then ?_
    refine GC.seq ?_
    refine GC.reg ?_
    refine GL.val (rv_move rfl) rfl ?_
    refine GL.val (rv_assign rfl) rfl ?_
    refine GL.nil ?_
    refine GX.then ?_
    refine GC.ret ?_
    refine GX.ret1 rfl (RR.tmp rfl) ?_
    exact fun w h => ⟨(), by rw [e], h, trivial⟩
set_option maxRecDepth 100000 in
set_option maxHeartbeats 1000000 in
theorem peer_c (z : Int) (w : World) : Calls Try.prog 20 [.int .i64 z].toArray w fun e w' => ∃ _g : Unit, e = .returned (.bool (decide (0 ≤ z) && decide (z < 8))) ∧ St noB w w' [] ∧ True := by
  refine GC.calls Try.func20 rfl rfl (St.begin _) ?_
  refine GC.seq ?_
  refine GC.reg ?_
  refine GL.val (rv_assign rfl) rfl ?_
  refine GL.nil ?_
  refine GX.then ?_
  refine GC.seq ?_
  refine GC.reg ?_
  refine GL.val (rv_move rfl) rfl ?_
  refine GL.val (rv_geq rfl rfl) rfl ?_
  refine GL.val (rv_move rfl) rfl ?_
  first | refine GL.skipG rfl rfl ?_ | refine GL.skipU rfl rfl ?_ | refine GL.valT rfl (rv_move rfl) rfl ?_ | refine GL.valG rfl (fun hb => rv_move (by first | exact evb rfl hb | rfl)) rfl ?_
  first | refine GL.skipG rfl rfl ?_ | refine GL.skipU rfl rfl ?_ | refine GL.valT rfl (rv_lss rfl rfl) rfl ?_ | refine GL.valG rfl (fun hb => rv_lss (by first | exact evb rfl hb | rfl) (by first | exact evb rfl hb | rfl)) rfl ?_
  refine GL.val ((by first | exact rv_andT rfl rfl rfl | exact rv_andF rfl rfl rfl | exact rv_pickAnd rfl rfl rfl)) rfl ?_
  refine GL.val (rv_assign rfl) rfl ?_
  refine GL.nil ?_
  refine GX.then ?_
  refine GC.ret ?_
  refine GX.ret1 rfl (RR.tmp rfl) ?_
  exact fun w h => ⟨(), by simp, h, trivial⟩
set_option maxRecDepth 100000 in
set_option maxHeartbeats 1000000 in
theorem clone_c (A : Option Addr) (n c : Nat) (b : List UInt8) (w : World) (hR : SlR w A (byts b)) (hl : b.length = n) (hn : n ≤ 100000000) :
    Calls Try.prog 26 [.slice A n c].toArray w fun e w' => ∃ g : Option Addr × Nat, e = .returned (.slice g.1 n g.2) ∧ St noB w w' [.row g.1 g.2 5 1 n (byts b)] ∧ True := by
  refine GC.calls Try.func26 rfl rfl (St.begin _) ?_
  subst hl
  have hA : A.isNone = true → b = [] := fun h => by
    rcases hR with h | ⟨b', o, rfl, _⟩
    · simpa [byts] using h
    · cases h
  refine GC.seq ?_
  refine GC.reg ?_
  refine GL.val (rv_assign rfl) rfl ?_
  refine GL.nil ?_
  refine GX.then ?_
  refine GC.seq ?_
  refine GC.seq ?_
  refine GC.reg ?_
  refine GL.val (rv_move rfl) rfl ?_
  refine GL.val (rv_slNil Try.underlying23 rfl rfl) rfl ?_
  refine GL.nil ?_
  refine GX.then ?_
  first | refine GC.condP rfl (fun c1 => ?_) (fun c1 => ?_) | refine GC.cond rfl (fun c1 => ?_) (fun c1 => ?_)
  · refine GC.seq ?_
    refine GC.reg ?_
    refine GL.val (rv_assign rfl) rfl ?_
    refine GL.nil ?_
    refine GX.then ?_
    refine GC.ret ?_
    refine GX.then_ret ?_
    refine GX.ret1 rfl (RR.tmp rfl) ?_
    obtain rfl : b = [] := hA c1
    exact fun w h => ⟨(none, 0), rfl, h.nilRow 5 1, trivial⟩
  · refine GC.skip ?_
    refine GX.then ?_
    refine GC.seq ?_
    refine GC.reg ?_
    refine GL.step (ot_buildSlice ei_23 rfl rfl rfl rfl rfl rfl fun b5 => ?_)
    refine GL.st (fun w h => h.clRow (k := 0) (n' := 0) (sz := 1) rfl rfl (by omega)) ?_
    refine GL.val (rv_move rfl) rfl ?_
    refine GL.step (ot_append (k := 0) (news := byts b) ei_23 rfl rfl rfl (by rw [byts_len]; omega) (fun w h => (h.rd0n hR).imp (fun e => by simpa [byts] using e) fun ⟨b, o, e1, e2⟩ => ⟨b, o, e1, e2⟩) (byts_one b) (by omega) (by decide) rfl fun A7 c7 z7 => ?_)
    refine GL.val (rv_assign rfl) rfl ?_
    refine GL.nil ?_
    refine GX.then ?_
    refine GC.ret ?_
    refine GX.ret1 rfl (RR.tmp rfl) ?_
    exact fun w h => ⟨(A7, c7), by rw [Nat.zero_add], by simpa using h, trivial⟩
set_option maxRecDepth 100000 in
set_option maxHeartbeats 1000000 in
theorem copied_c (q : Ml.Pv) (w : World) (hR : SlR w q.2.1 (byts q.1.2.2)) (hn : q.1.2.2.length ≤ 100000000) :
    Calls Try.prog 22 [.agg (Ml.pcell q).toArray].toArray w fun e w' => ∃ g : Option Addr × Nat, e = .returned (.agg (Ml.pcell (q.1, g)).toArray) ∧ St noB w w' [frzN [Ml.bfact (q.1, g)]] ∧ True := by
  refine GC.calls Try.func22 rfl rfl (St.begin _) ?_
  refine GC.seq ?_
  refine GC.reg ?_
  refine GL.step (ot_box rfl rfl rfl fun b1 => ?_)
  refine GL.step (ot_alloc (zs := [.int .i64 0, .int .i64 0, .slice none 0 0]) zb_25 rfl rfl fun b2 => ?_)
  refine GL.nil ?_
  refine GX.then ?_
  refine GC.seq ?_
  refine GC.reg ?_
  refine GL.val (rv_field fo_25_2 rfl rfl) rfl ?_
  refine GL.val (rv_load ag_23 rfl (by first | exact Hd.cell (k := 0) rfl rfl | exact Hd.cell (k := 1) rfl rfl | exact Hd.rowCell (k := 0) rfl (by assumption) | exact Hd.rowCell (k := 1) rfl (by assumption) | exact Hd.cell0 (by assumption) (by first | exact fun h => h | assumption))) rfl ?_
  refine GL.step (ot_call hb_26 rfl (callOk fun w hh => clone_c q.2.1 _ q.2.2 q.1.2.2 w (hh.rd0n hR) rfl hn) rfl fun ⟨A5, c5⟩ _ => ?_)
  refine GL.val (rv_field fo_25_2 rfl rfl) rfl ?_
  first | refine GL.step (ot_store (k := 0) rfl rfl rfl rfl sz_23 rfl rfl (by first | ((simp only [repl, List.set_cons_zero, List.set_cons_succ]) <;> rfl) | rfl) ?_) | refine GL.step (ot_store (k := 1) rfl rfl rfl rfl sz_23 rfl rfl (by first | ((simp only [repl, List.set_cons_zero, List.set_cons_succ]) <;> rfl) | rfl) ?_) | refine GL.step (ot_store (k := 2) rfl rfl rfl rfl sz_23 rfl rfl (by first | ((simp only [repl, List.set_cons_zero, List.set_cons_succ]) <;> rfl) | rfl) ?_)
  refine GL.nil ?_
  refine GX.then ?_
  refine GC.seq ?_
  refine GC.reg ?_
  refine GL.val (rv_loadA ag_25 rfl (by first | exact Hd.cellsAll (k := 0) rfl | exact Hd.cellsAll (k := 1) rfl | exact Hd.cellsAll (k := 2) rfl | exact Hd.cells0 (by assumption) (by first | exact fun h => h | assumption)) (by exact sz_25)) rfl ?_
  first | refine GL.step (ot_store (k := 0) rfl rfl rfl rfl sz_25 rfl rfl (by first | ((simp only [repl, List.set_cons_zero, List.set_cons_succ]) <;> rfl) | rfl) ?_) | refine GL.step (ot_store (k := 1) rfl rfl rfl rfl sz_25 rfl rfl (by first | ((simp only [repl, List.set_cons_zero, List.set_cons_succ]) <;> rfl) | rfl) ?_) | refine GL.step (ot_store (k := 2) rfl rfl rfl rfl sz_25 rfl rfl (by first | ((simp only [repl, List.set_cons_zero, List.set_cons_succ]) <;> rfl) | rfl) ?_)
  refine GL.nil ?_
  refine GX.then ?_
  refine GC.ret ?_
  refine GX.ret1 rfl (RR.cell ag_25 rfl (by first | exact Hd.cellsAll (k := 0) rfl | exact Hd.cellsAll (k := 1) rfl | exact Hd.cellsAll (k := 2) rfl | exact Hd.cells0 (by assumption) (by first | exact fun h => h | assumption)) (by exact sz_25)) ?_
  exact fun w h => ⟨(A5, c5), rfl, (h.rowFrz (k := 0) rfl).take 1, trivial⟩
set_option maxRecDepth 100000 in
set_option maxHeartbeats 1000000 in
theorem own_c (A : Option Addr) (n c : Nat) (ps : List Ml.Pv) (w : World) (hR : ∀ f ∈ Ml.pfs A ps, SlR w f.1 f.2) (hl : ps.length = n) (hn : n ≤ 1000000) (hb : ∀ q ∈ ps, q.1.2.2.length ≤ 100000000) :
    Calls Try.prog 21 [.slice A n c].toArray w fun e w' => ∃ g : (Option Addr × Nat) × List Ml.Pv, e = .returned (.slice g.1.1 n g.1.2) ∧ St noB w w' [.row g.1.1 g.1.2 25 3 n (Ml.pcs g.2), frzN (g.2.map Ml.bfact)] ∧ Ml.pl g.2 = Ml.pl ps := by
  refine GC.calls Try.func21 rfl rfl (St.begin _) ?_
  subst hl
  have HA := Ml.pHead (hR (A, Ml.pcs ps) (List.mem_cons_self ..))
  refine GC.seq ?_
  refine GC.reg ?_
  refine GL.val (rv_assign rfl) rfl ?_
  refine GL.nil ?_
  refine GX.then ?_
  refine GC.seq ?_
  refine GC.reg ?_
  refine GL.val (rv_assign rfl) rfl ?_
  refine GL.nil ?_
  refine GX.then ?_
  refine GC.seq ?_
  refine GC.seq ?_
  refine GC.reg ?_
  refine GL.val (rv_move rfl) rfl ?_
  refine GL.val (rv_lenSl Try.underlying22 rfl) rfl ?_
  refine GL.val (rv_move rfl) rfl ?_
  refine GL.nil ?_
  refine GX.then ?_
  refine GC.block ?_
  refine GC.loop (γ := Nat × (Option Addr × Nat) × List Ml.Pv) (fun g => [(0, .slice A ps.length c), (3, .slice g.2.1.1 g.1 g.2.1.2), (6, .int .i64 (ps.length : Int)), (7, .int .i64 (g.1 : Int))]) (fun g => [.row g.2.1.1 g.2.1.2 25 3 g.1 (Ml.pcs g.2.2), frzN (g.2.2.map Ml.bfact)]) (fun g => g.1 ≤ ps.length ∧ Ml.pl g.2.2 = (Ml.pl ps).take g.1) (fun g => ps.length - g.1) ((0, (none, 0), [])) ⟨Nat.zero_le _, rfl⟩ (by repeat (first | exact Sub.nil | refine Sub.cons rfl ?_)) (fun w h => h.frzN0.nilRow 25 3) (fun ⟨j, ⟨A3, c3⟩, qs⟩ ⟨hj, hq⟩ => ?_)
  dsimp only at hj hq ⊢
  refine GC.seq ?_
  refine GC.reg ?_
  refine GL.val (rv_lss rfl rfl) rfl ?_
  refine GL.nil ?_
  refine GX.then ?_
  refine GC.seq ?_
  first | refine GC.condP rfl (fun c1 => ?_) (fun c1 => ?_) | refine GC.cond rfl (fun c1 => ?_) (fun c1 => ?_)
  · have hlt : j < ps.length := by omega
    obtain ⟨b, o, rfl, hC⟩ := HA.resolve_left (by omega)
    refine GC.skip ?_
    refine GX.then ?_
    refine GC.seq ?_
    refine GC.block ?_
    refine GC.seq ?_
    refine GC.reg ?_
    refine GL.val (rv_move rfl) rfl ?_
    refine GL.val (rv_assign rfl) rfl ?_
    refine GL.nil ?_
    refine GX.then ?_
    refine GC.reg ?_
    refine GL.val (rv_move rfl) rfl ?_
    refine GL.val (rv_move rfl) rfl ?_
    refine GL.val (rv_move rfl) rfl ?_
    refine GL.val (rv_elem es_22 rfl rfl (by omega) (by omega)) rfl ?_
    refine GL.val (rv_loadA ag_25 rfl (Hd.cells0 (Ml.pcC hC hlt) (fun h => h)) (by exact sz_25)) rfl ?_
    refine GL.step (ot_call hb_22 rfl (callOk fun w hh => copied_c ps[j] w (hh.rd0n (hR _ (Ml.bmem hlt _))) (hb _ (List.getElem_mem hlt))) rfl fun g15 _ => ?_)
    obtain ⟨A15, c15⟩ := g15
    refine GL.step (ot_buildSlice ei_22 rfl rfl rfl rfl rfl rfl fun b16 => ?_)
    first | refine GL.step (ot_append (k := 1) ei_22 rfl rfl rfl (by rfl) (fun w h => .inr ⟨_, _, rfl, Hd.cellsAll (k := 0) rfl w h⟩) (by rfl) (by omega) (by decide) rfl fun A17 c17 z17 => ?_) | refine GL.step (ot_append (k := 2) ei_22 rfl rfl rfl (by rfl) (fun w h => .inr ⟨_, _, rfl, Hd.cellsAll (k := 0) rfl w h⟩) (by rfl) (by omega) (by decide) rfl fun A17 c17 z17 => ?_) | refine GL.step (ot_append (k := 3) ei_22 rfl rfl rfl (by rfl) (fun w h => .inr ⟨_, _, rfl, Hd.cellsAll (k := 0) rfl w h⟩) (by rfl) (by omega) (by decide) rfl fun A17 c17 z17 => ?_) | refine GL.step (ot_append (k := 0) ei_22 rfl rfl rfl (by rfl) (fun w h => .inr ⟨_, _, rfl, Hd.cellsAll (k := 1) rfl w h⟩) (by rfl) (by omega) (by decide) rfl fun A17 c17 z17 => ?_) | refine GL.step (ot_append (k := 2) ei_22 rfl rfl rfl (by rfl) (fun w h => .inr ⟨_, _, rfl, Hd.cellsAll (k := 1) rfl w h⟩) (by rfl) (by omega) (by decide) rfl fun A17 c17 z17 => ?_) | refine GL.step (ot_append (k := 3) ei_22 rfl rfl rfl (by rfl) (fun w h => .inr ⟨_, _, rfl, Hd.cellsAll (k := 1) rfl w h⟩) (by rfl) (by omega) (by decide) rfl fun A17 c17 z17 => ?_)
    refine GL.val (rv_assign rfl) rfl ?_
    refine GL.nil ?_
    refine GX.blk ?_
    refine GX.then ?_
    refine GC.reg ?_
    refine GL.val (rv_add rfl rfl (by omega) (by omega)) rfl ?_
    refine GL.val (rv_move rfl) rfl ?_
    refine GL.nil ?_
    exact GX.round (j + 1, (A17, c17), qs ++ [(ps[j].1, (A15, c15))]) (by show _ - (j + 1) < _ - j; omega) ⟨by show j + 1 ≤ _; omega, by dsimp only; rw [Ml.take_succ' _ j (by rw [Ml.pl_len]; exact hlt), ← hq, Ml.pl_get ps j hlt]; simp [Ml.pl]⟩ (by repeat (first | exact Sub.nil | refine Sub.cons rfl ?_)) (fun w h => by
            dsimp only
            rw [Ml.pcs_app, List.map_append]
            exact (((h.drop 0).pull (k := 2) rfl).frzNAdd).pull (k := 1) rfl)
  · obtain rfl : j = ps.length := by omega
    have e : (Ml.pl ps).take ps.length = Ml.pl ps := List.take_of_length_le (by rw [Ml.pl_len]; exact Nat.le_refl _)
    refine GC.exit ?_
    refine GX.then_exit ?_
    refine GX.then_exit ?_
    refine GX.blk_eq ?_
    refine GX.then ?_
    refine GC.seq ?_
    refine GC.reg ?_
    refine GL.val (rv_move rfl) rfl ?_
    refine GL.val (rv_assign rfl) rfl ?_
    refine GL.nil ?_
    refine GX.then ?_
    refine GC.ret ?_
    refine GX.ret1 rfl (RR.tmp rfl) ?_
    exact fun w h => ⟨((A3, c3), qs), rfl, h, hq.trans e⟩
end Go.Proofs.Ytgdbcclammapnaa
