import Derived.Test.YtgdbcclammapnaaJ
set_option linter.unusedVariables false
set_option linter.unusedSimpArgs false
namespace Go.Proofs.Ytgdbcclammapnaa
open Go Go.RowKit Go.Bz

theorem pcs_at (ps : List Ml.Pv) (i : Nat) (h : i < ps.length) : ((Ml.pcs ps).drop (i * 3)).take 3 = Ml.pcell ps[i] := by
  apply List.ext_getElem?
  intro k
  rw [List.getElem?_take]
  split
  · rename_i hk; rw [List.getElem?_drop, Ml.pcs_get ps i h k hk]
  · rename_i hk; rw [List.getElem?_eq_none (by simp [Ml.pcell]; omega)]
theorem any_take (l : List Ml.Pp) (f : Ml.Pp → Bool) (i : Nat) (h : i < l.length) : (l.take (i + 1)).any f = ((l.take i).any f || f l[i]) := by
  rw [Ml.take_succ' l i h, List.any_append]; simp
set_option maxRecDepth 100000 in
set_option maxHeartbeats 1000000 in
theorem nothing_law (A : Option Addr) (n c : Nat) (os : List Ov) (w : World) (hR : SlR w A (ocs os)) (hRo : ∀ o ∈ os, SlR w o.2.2.1 (byts o.2.1.2.2)) (hl : os.length = n) (hob : ∀ o ∈ os, o.2.1.2.2.length ≤ 140737488351232) :
    Calls Try.prog 5 [.slice A n c].toArray w fun e w' => ∃ _g : Unit, e = .returned (.bool true) ∧ St noB w w' [] ∧ True := by
  refine GC.calls Try.func5 rfl rfl (St.begin _) ?_
  subst hl
  have HA := oHead hR
  refine GC.seq ?_
  refine GC.reg ?_
  refine GL.val (rv_assign rfl) rfl ?_
  refine GL.nil ?_
  refine GX.then ?_
  refine GC.seq ?_
  refine GC.seq ?_
  refine GC.reg ?_
  refine GL.val (rv_move rfl) rfl ?_
  refine GL.step (ot_call hb_7 rfl (callOk fun w hh => light_c none A 0 _ 0 c [] os w (.inl rfl) (hh.rd0n hR) rfl rfl (by simp) hob) rfl fun blb hbl => ?_)
  refine GL.val (rv_not rfl) rfl ?_
  refine GL.nil ?_
  refine GX.then ?_
  first | refine GC.condP rfl (fun c1 => ?_) (fun c1 => ?_) | refine GC.cond rfl (fun c1 => ?_) (fun c1 => ?_)
  · refine GC.seq ?_
    refine GC.reg ?_
    refine GL.step (ot_call hb_8 rfl (callOk fun w hh => works_c w) rfl fun _ _ => ?_)
    refine GL.val (rv_assign rfl) rfl ?_
    refine GL.nil ?_
    refine GX.then ?_
    refine GC.ret ?_
    refine GX.then_ret ?_
    refine GX.ret1 rfl (RR.tmp rfl) ?_
    exact fun w1 h1 => ⟨(), rfl, h1.take 0, trivial⟩
  · obtain ⟨_, h2, h3⟩ := hbl (by simpa using c1)
    have hos : ∀ o ∈ os, o.2.1.2.2.length ≤ 100000000 := fun o ho => by have := sb_mem (l := ob os) (x := o.2.1.2.2.length) (List.mem_map_of_mem (f := fun o : Ov => o.2.1.2.2.length) ho); omega
    refine GC.skip ?_
    refine GX.then ?_
    refine GC.seq ?_
    refine GC.reg ?_
    refine GL.val (rv_assign rfl) rfl ?_
    refine GL.val (rv_assign rfl) rfl ?_
    refine GL.nil ?_
    refine GX.then ?_
    refine GC.seq ?_
    refine GC.reg ?_
    refine GL.val (rv_assign rfl) rfl ?_
    refine GL.nil ?_
    refine GX.then ?_
    refine GC.seq ?_
    refine GC.seq ?_
    refine GC.reg ?_
    refine GL.val (rv_assign rfl) rfl ?_
    refine GL.nil ?_
    refine GX.then ?_
    refine GC.block ?_
    refine GC.loop (γ := Nat × ((Option Addr × Nat) × List Ml.Pv) × ((Option Addr × Nat) × List Ml.Pv)) (fun g => [(0, .slice A os.length c), (3, .slice g.2.1.1.1 g.2.1.2.length g.2.1.1.2), (4, .slice g.2.2.1.1 g.2.2.2.length g.2.2.1.2), (5, .int .i64 (g.2.1.2.length : Int)), (6, .int .i64 (g.1 : Int))]) (fun g => [frz w (Ml.pfs g.2.1.1.1 g.2.1.2), .row g.2.2.1.1 g.2.2.1.2 25 3 g.2.2.2.length (Ml.pcs g.2.2.2)]) (fun g => g.1 ≤ os.length ∧ Ml.pl g.2.1.2 = sts (os.take g.1) ∧ (∀ r ∈ g.2.2.2, ∃ o ∈ os, r = o.2) ∧ g.2.2.2.length ≤ g.1 ∧ (∀ p ∈ Ml.pl g.2.1.2, p ∈ Ml.pl g.2.2.2)) (fun g => os.length - g.1) ((0, ((none, 0), []), ((none, 0), []))) ⟨Nat.zero_le _, rfl, (fun r h => by cases h), Nat.zero_le _, (fun p h => by cases h)⟩ (by repeat (first | exact Sub.nil | refine Sub.cons rfl ?_)) (fun w h => ((h.take 0).nilRow 25 3).frz0 _ nilFs) (fun ⟨j, ⟨⟨A3, k3⟩, zs⟩, ⟨⟨A4, c4'⟩, ss⟩⟩ ⟨hj, ha, hso, hsj, hin⟩ => ?_)
    dsimp only at hj ha hso hsj hin ⊢
    refine GC.seq ?_
    refine GC.seq ?_
    refine GC.reg ?_
    refine GL.val (rv_move rfl) rfl ?_
    refine GL.val (rv_move rfl) rfl ?_
    refine GL.val (rv_lenSl Try.underlying29 rfl) rfl ?_
    refine GL.val (rv_lss rfl rfl) rfl ?_
    refine GL.nil ?_
    refine GX.then ?_
    first | refine GC.condP rfl (fun c2 => ?_) (fun c2 => ?_) | refine GC.cond rfl (fun c2 => ?_) (fun c2 => ?_)
    · have hlt : j < os.length := by omega
      obtain ⟨b, o, rfl, hC⟩ := HA.resolve_left (by omega)
      have hal : zs.length ≤ j := by rw [← Ml.pl_len, ha]; exact sts_len os j hj
      have hbs : ∀ q ∈ zs, q.1.2.2.length ≤ 100000000 := fun q hq => sts_mem os 100000000 hos j hj q.1 (by rw [← ha]; exact List.mem_map_of_mem hq)
      refine GC.skip ?_
      refine GX.then ?_
      refine GC.seq ?_
      refine GC.block ?_
      refine GC.seq ?_
      refine GC.reg ?_
      refine GL.val (rv_assign rfl) rfl ?_
      refine GL.nil ?_
      refine GX.then ?_
      refine GC.seq ?_
      refine GC.reg ?_
      refine GL.val (rv_move rfl) rfl ?_
      refine GL.val (rv_assign rfl) rfl ?_
      refine GL.nil ?_
      refine GX.then ?_
      refine GC.seq ?_
      refine GC.seq ?_
      refine GC.reg ?_
      refine GL.val (rv_move rfl) rfl ?_
      refine GL.val (rv_move rfl) rfl ?_
      refine GL.val (rv_elem es_29 rfl rfl (by omega) (by omega)) rfl ?_
      refine GL.val (rv_field fo_27_0 rfl rfl) rfl ?_
      refine GL.val (rv_load ag_3 rfl (Hd.cell0 (oc0 hC hlt) (fun h => h))) rfl ?_
      refine GL.nil ?_
      refine GX.then ?_
      refine GC.block ?_
      refine GC.seq ?_
      refine GC.reg ?_
      refine GL.val (rv_eqI rfl rfl) rfl ?_
      refine GL.val (rv_assign rfl) rfl ?_
      refine GL.nil ?_
      refine GX.then ?_
      first | refine GC.condP rfl (fun c3 => ?_) (fun c3 => ?_) | refine GC.cond rfl (fun c3 => ?_) (fun c3 => ?_)
      · refine GC.seq ?_
        refine GC.reg ?_
        refine GL.val (rv_move rfl) rfl ?_
        refine GL.val (rv_move rfl) rfl ?_
        refine GL.val (rv_move rfl) rfl ?_
        refine GL.val (rv_elem es_29 rfl rfl (by omega) (by omega)) rfl ?_
        refine GL.val (rv_field fo_27_2 rfl rfl) rfl ?_
        refine GL.val (rv_loadA ag_25 rfl (Hd.cells0 (ocP hC hlt) (fun h => h)) (by exact sz_25)) rfl ?_
        refine GL.step (ot_call hb_12 rfl (callOk fun w hh => send_c A3 _ k3 zs w (fun f hf => hh.frz (k := 0) rfl f hf) rfl (by omega) hbs os[j].2 (hh.rd0n (hRo _ (List.getElem_mem hlt))) (hos _ (List.getElem_mem hlt))) rfl fun gx hx => ?_)
        obtain ⟨⟨A1, d1⟩, xs⟩ := gx
        dsimp only at hx
        rw [ha] at hx ⊢
        refine GL.val (rv_move rfl) rfl ?_
        refine GL.val (rv_extract rfl rfl) rfl ?_
        refine GL.val (rv_extract rfl rfl) rfl ?_
        refine GL.val (rv_assign rfl) rfl ?_
        refine GL.val (rv_assign rfl) rfl ?_
        refine GL.nil ?_
        refine GX.then ?_
        refine GC.seq ?_
        refine GC.reg ?_
        refine GL.val (rv_move rfl) rfl ?_
        refine GL.val (rv_eqI rfl rfl) rfl ?_
        refine GL.nil ?_
        refine GX.then ?_
        first | refine GC.condP rfl (fun c4 => ?_) (fun c4 => ?_) | refine GC.cond rfl (fun c4 => ?_) (fun c4 => ?_)
        · have hxl : xs.length = zs.length + 1 := by rw [← Ml.pl_len xs, hx, send_ok c4, ← ha]; simp [Ml.pl_len]
          refine GC.seq ?_
          refine GC.reg ?_
          refine GL.val (rv_move rfl) rfl ?_
          refine GL.val (rv_move rfl) rfl ?_
          refine GL.val (rv_move rfl) rfl ?_
          refine GL.val (rv_elem es_29 rfl rfl (by omega) (by omega)) rfl ?_
          refine GL.val (rv_field fo_27_2 rfl rfl) rfl ?_
          refine GL.val (rv_loadA ag_25 rfl (Hd.cells0 (ocP hC hlt) (fun h => h)) (by exact sz_25)) rfl ?_
          refine GL.step (ot_buildSlice ei_22 rfl rfl rfl rfl rfl rfl fun b48 => ?_)
          first | refine GL.step (ot_append (k := 1) ei_22 rfl rfl rfl (by rfl) (fun w h => .inr ⟨_, _, rfl, Hd.cellsAll (k := 0) rfl w h⟩) (by rfl) (by omega) (by decide) rfl fun A49 c49 z49 => ?_) | refine GL.step (ot_append (k := 2) ei_22 rfl rfl rfl (by rfl) (fun w h => .inr ⟨_, _, rfl, Hd.cellsAll (k := 0) rfl w h⟩) (by rfl) (by omega) (by decide) rfl fun A49 c49 z49 => ?_) | refine GL.step (ot_append (k := 3) ei_22 rfl rfl rfl (by rfl) (fun w h => .inr ⟨_, _, rfl, Hd.cellsAll (k := 0) rfl w h⟩) (by rfl) (by omega) (by decide) rfl fun A49 c49 z49 => ?_) | refine GL.step (ot_append (k := 0) ei_22 rfl rfl rfl (by rfl) (fun w h => .inr ⟨_, _, rfl, Hd.cellsAll (k := 1) rfl w h⟩) (by rfl) (by omega) (by decide) rfl fun A49 c49 z49 => ?_) | refine GL.step (ot_append (k := 2) ei_22 rfl rfl rfl (by rfl) (fun w h => .inr ⟨_, _, rfl, Hd.cellsAll (k := 1) rfl w h⟩) (by rfl) (by omega) (by decide) rfl fun A49 c49 z49 => ?_) | refine GL.step (ot_append (k := 3) ei_22 rfl rfl rfl (by rfl) (fun w h => .inr ⟨_, _, rfl, Hd.cellsAll (k := 1) rfl w h⟩) (by rfl) (by omega) (by decide) rfl fun A49 c49 z49 => ?_) | refine GL.step (ot_append (k := 0) ei_22 rfl rfl rfl (by rfl) (fun w h => .inr ⟨_, _, rfl, Hd.cellsAll (k := 2) rfl w h⟩) (by rfl) (by omega) (by decide) rfl fun A49 c49 z49 => ?_) | refine GL.step (ot_append (k := 1) ei_22 rfl rfl rfl (by rfl) (fun w h => .inr ⟨_, _, rfl, Hd.cellsAll (k := 2) rfl w h⟩) (by rfl) (by omega) (by decide) rfl fun A49 c49 z49 => ?_) | refine GL.step (ot_append (k := 3) ei_22 rfl rfl rfl (by rfl) (fun w h => .inr ⟨_, _, rfl, Hd.cellsAll (k := 2) rfl w h⟩) (by rfl) (by omega) (by decide) rfl fun A49 c49 z49 => ?_) | refine GL.step (ot_append (k := 0) ei_22 rfl rfl rfl (by rfl) (fun w h => .inr ⟨_, _, rfl, Hd.cellsAll (k := 3) rfl w h⟩) (by rfl) (by omega) (by decide) rfl fun A49 c49 z49 => ?_) | refine GL.step (ot_append (k := 1) ei_22 rfl rfl rfl (by rfl) (fun w h => .inr ⟨_, _, rfl, Hd.cellsAll (k := 3) rfl w h⟩) (by rfl) (by omega) (by decide) rfl fun A49 c49 z49 => ?_) | refine GL.step (ot_append (k := 2) ei_22 rfl rfl rfl (by rfl) (fun w h => .inr ⟨_, _, rfl, Hd.cellsAll (k := 3) rfl w h⟩) (by rfl) (by omega) (by decide) rfl fun A49 c49 z49 => ?_)
          refine GL.st (fun w h => h.drop 0) ?_
          refine GL.val (rv_assign rfl) rfl ?_
          refine GL.nil ?_
          refine GX.then ?_
          refine GC.reg ?_
          refine GL.val (rv_move rfl) rfl ?_
          refine GL.val (rv_add rfl rfl (by omega) (by omega)) rfl ?_
          refine GL.val (rv_assign rfl) rfl ?_
          refine GL.nil ?_
          refine GX.blk ?_
          refine GX.then ?_
          refine GC.seq ?_
          refine GC.seq ?_
          refine GC.reg ?_
          refine GL.val (rv_move rfl) rfl ?_
          refine GL.val (rv_eqI rfl rfl) rfl ?_
          refine GL.nil ?_
          refine GX.then ?_
          first | refine GC.condP rfl (fun c5 => ?_) (fun c5 => ?_) | refine GC.cond rfl (fun c5 => ?_) (fun c5 => ?_)
          · refine GC.reg ?_
            refine GL.val (rv_move rfl) rfl ?_
            refine GL.val (rv_assign rfl) rfl ?_
            refine GL.nil ?_
            refine GX.then ?_
            refine GC.seq ?_
            refine GC.reg ?_
            refine GL.val (rv_move rfl) rfl ?_
            refine GL.val (rv_lenSl Try.underlying22 rfl) rfl ?_
            refine GL.val (rv_move rfl) rfl ?_
            refine GL.val ((by first | exact rv_to (v' := .bool true) (rv_neI rfl rfl) (by simp only [Value.bool.injEq, decide_eq_true_eq, decide_eq_false_iff_not]; omega) | exact rv_to (v' := .bool false) (rv_neI rfl rfl) (by simp only [Value.bool.injEq, decide_eq_true_eq, decide_eq_false_iff_not]; omega))) rfl ?_
            refine GL.nil ?_
            refine GX.then ?_
            first | refine GC.condP rfl (fun c6 => ?_) (fun c6 => ?_) | refine GC.cond rfl (fun c6 => ?_) (fun c6 => ?_)
            · exact absurd c6 (by simp)
            · refine GC.skip ?_
              refine GX.blk ?_
              refine GX.then ?_
              refine GC.reg ?_
              refine GL.val (rv_move rfl) rfl ?_
              refine GL.val (rv_add rfl rfl (by omega) (by omega)) rfl ?_
              refine GL.val (rv_assign rfl) rfl ?_
              refine GL.nil ?_
              have hst : Ml.pl xs = sts (os.take (j + 1)) := by rw [sts_take os j hlt]; unfold stf nxt res; simp [c3, c4, hx]
              have hso' : ∀ r ∈ ss ++ [os[j].2], ∃ o ∈ os, r = o.2 := fun r hr => (List.mem_append.1 hr).elim (hso r) (fun h => ⟨_, List.getElem_mem hlt, List.mem_singleton.1 h⟩)
              have hin' : ∀ p ∈ Ml.pl xs, p ∈ Ml.pl (ss ++ [os[j].2]) := fun p hp => by
                rw [hx, send_ok c4] at hp
                rw [show Ml.pl (ss ++ [os[j].2]) = Ml.pl ss ++ [os[j].2.1] by simp [Ml.pl]]
                exact (List.mem_append.1 hp).elim (fun h => List.mem_append_left _ (hin p (by rw [ha]; exact h))) (fun h => List.mem_append_right _ h)
              have hsl : (ss ++ [os[j].2]).length = ss.length + 1 := by simp
              exact GX.round (j + 1, ((A1, d1), xs), ((A49, c49), ss ++ [os[j].2])) (by show _ - (j + 1) < _ - j; omega) ⟨by show j + 1 ≤ _; omega, hst, hso', by dsimp only; omega, hin'⟩ (by dsimp only; rw [hsl, show ((xs.length : Nat) : Int) = (zs.length : Int) + 1 by omega]; exact (by repeat (first | exact Sub.nil | refine Sub.cons rfl ?_))) (fun w h => by dsimp only; rw [hsl, Ml.pcs_app]; exact frzNew (m := Ml.pfs A1 xs) h (fun f hf => .inl hf))
          · exact absurd c4 c5
        · refine GC.skip ?_
          refine GX.blk ?_
          refine GX.then ?_
          refine GC.seq ?_
          refine GC.seq ?_
          refine GC.reg ?_
          refine GL.val (rv_move rfl) rfl ?_
          refine GL.val (rv_eqI rfl rfl) rfl ?_
          refine GL.nil ?_
          refine GX.then ?_
          first | refine GC.condP rfl (fun c7 => ?_) (fun c7 => ?_) | refine GC.cond rfl (fun c7 => ?_) (fun c7 => ?_)
          · exact absurd c7 c4
          · refine GC.skip ?_
            refine GX.then ?_
            refine GC.seq ?_
            refine GC.reg ?_
            refine GL.val (rv_move rfl) rfl ?_
            refine GL.val (rv_lenSl Try.underlying22 rfl) rfl ?_
            refine GL.val (rv_move rfl) rfl ?_
            refine GL.val ((by first | exact rv_to (v' := .bool true) (rv_neI rfl rfl) (by simp only [Value.bool.injEq, decide_eq_true_eq, decide_eq_false_iff_not]; omega) | exact rv_to (v' := .bool false) (rv_neI rfl rfl) (by simp only [Value.bool.injEq, decide_eq_true_eq, decide_eq_false_iff_not]; omega))) rfl ?_
            refine GL.nil ?_
            refine GX.then ?_
            first | refine GC.condP rfl (fun c8 => ?_) (fun c8 => ?_) | refine GC.cond rfl (fun c8 => ?_) (fun c8 => ?_)
            · exact absurd c8 (by simp)
            · refine GC.skip ?_
              refine GX.blk ?_
              refine GX.then ?_
              refine GC.reg ?_
              refine GL.val (rv_move rfl) rfl ?_
              refine GL.val (rv_add rfl rfl (by omega) (by omega)) rfl ?_
              refine GL.val (rv_assign rfl) rfl ?_
              refine GL.nil ?_
              have hso' := hso
              have hin' := hin
              have hst : Ml.pl zs = sts (os.take (j + 1)) := by rw [sts_take os j hlt]; unfold stf nxt res; simp [c3, c4, ha]
              exact GX.round (j + 1, ((A3, k3), zs), ((A4, c4'), ss)) (by show _ - (j + 1) < _ - j; omega) ⟨by show j + 1 ≤ _; omega, hst, hso', by dsimp only; omega, hin'⟩ (by dsimp only; exact (by repeat (first | exact Sub.nil | refine Sub.cons rfl ?_))) (fun w h => h.drop 0)
      · refine GC.seq ?_
        refine GC.reg ?_
        refine GL.val (rv_eqI rfl rfl) rfl ?_
        refine GL.val (rv_assign rfl) rfl ?_
        refine GL.nil ?_
        refine GX.then ?_
        first | refine GC.condP rfl (fun c9 => ?_) (fun c9 => ?_) | refine GC.cond rfl (fun c9 => ?_) (fun c9 => ?_)
        · refine GC.seq ?_
          refine GC.reg ?_
          refine GL.val (rv_buildS pl_25 zb_25 rfl rfl (by first | ((simp only [bldL, repl, List.set_cons_zero, List.set_cons_succ, List.getElem?_cons_zero, List.getElem?_cons_succ, Option.getD_some, Value.cells]) <;> rfl) | rfl)) rfl ?_
          refine GL.step (ot_alloc (zs := [.int .i64 0, .int .i64 0, .slice none 0 0]) zb_25 rfl rfl fun b9 => ?_)
          first | refine GL.step (ot_store (k := 0) rfl rfl rfl rfl sz_25 rfl rfl (by first | ((simp only [repl, List.set_cons_zero, List.set_cons_succ]) <;> rfl) | rfl) ?_) | refine GL.step (ot_store (k := 1) rfl rfl rfl rfl sz_25 rfl rfl (by first | ((simp only [repl, List.set_cons_zero, List.set_cons_succ]) <;> rfl) | rfl) ?_) | refine GL.step (ot_store (k := 2) rfl rfl rfl rfl sz_25 rfl rfl (by first | ((simp only [repl, List.set_cons_zero, List.set_cons_succ]) <;> rfl) | rfl) ?_)
          refine GL.nil ?_
          refine GX.then ?_
          refine GC.seq ?_
          refine GC.reg ?_
          refine GL.val (rv_move rfl) rfl ?_
          refine GL.val (rv_move rfl) rfl ?_
          refine GL.val (rv_move rfl) rfl ?_
          refine GL.val (rv_elem es_29 rfl rfl (by omega) (by omega)) rfl ?_
          refine GL.val (rv_field fo_27_1 rfl rfl) rfl ?_
          refine GL.val (rv_load ag_3 rfl (Hd.cell0 (oc1 hC hlt) (fun h => h))) rfl ?_
          refine GL.step (ot_call hb_13 rfl (callOk fun w hh => take_c A3 _ k3 zs w (fun f hf => hh.frz (k := 1) rfl f hf) rfl (by omega) hbs os[j].1.2) rfl fun gx hx => ?_)
          obtain ⟨⟨A1, d1⟩, xs, px⟩ := gx
          obtain ⟨hx, hpx⟩ := hx
          dsimp only at hx hpx
          rw [ha] at hx hpx ⊢
          refine GL.val (rv_move rfl) rfl ?_
          refine GL.val (rv_extract rfl rfl) rfl ?_
          refine GL.val (rv_extract rfl rfl) rfl ?_
          refine GL.val (rv_extract rfl rfl) rfl ?_
          refine GL.val (rv_assign rfl) rfl ?_
          first | refine GL.step (ot_store (k := 0) rfl rfl rfl rfl sz_25 rfl rfl (by first | ((simp only [repl, List.set_cons_zero, List.set_cons_succ]) <;> rfl) | rfl) ?_) | refine GL.step (ot_store (k := 1) rfl rfl rfl rfl sz_25 rfl rfl (by first | ((simp only [repl, List.set_cons_zero, List.set_cons_succ]) <;> rfl) | rfl) ?_) | refine GL.step (ot_store (k := 2) rfl rfl rfl rfl sz_25 rfl rfl (by first | ((simp only [repl, List.set_cons_zero, List.set_cons_succ]) <;> rfl) | rfl) ?_) | refine GL.step (ot_store (k := 3) rfl rfl rfl rfl sz_25 rfl rfl (by first | ((simp only [repl, List.set_cons_zero, List.set_cons_succ]) <;> rfl) | rfl) ?_)
          refine GL.val (rv_assign rfl) rfl ?_
          refine GL.nil ?_
          refine GX.then ?_
          refine GC.seq ?_
          refine GC.reg ?_
          refine GL.val (rv_move rfl) rfl ?_
          refine GL.val (rv_eqI rfl rfl) rfl ?_
          refine GL.nil ?_
          refine GX.then ?_
          first | refine GC.condP rfl (fun c10 => ?_) (fun c10 => ?_) | refine GC.cond rfl (fun c10 => ?_) (fun c10 => ?_)
          · have hxl : xs.length + 1 = zs.length := by rw [← Ml.pl_len xs, hx, (take_ok' c10).1, ← ha, Ml.pl_len]
            refine GC.seq ?_
            refine GC.reg ?_
            refine GL.val (rv_move rfl) rfl ?_
            refine GL.val (rv_sub rfl rfl (by omega) (by omega)) rfl ?_
            refine GL.val (rv_assign rfl) rfl ?_
            refine GL.nil ?_
            refine GX.then ?_
            refine GC.seq ?_
            refine GC.reg ?_
            refine GL.val (rv_assign rfl) rfl ?_
            refine GL.nil ?_
            refine GX.then ?_
            refine GC.seq ?_
            refine GC.seq ?_
            refine GC.reg ?_
            refine GL.val (rv_assign rfl) rfl ?_
            refine GL.nil ?_
            refine GX.then ?_
            refine GC.block ?_
            refine GC.loop (γ := Nat) (fun i => [(0, .slice (some ⟨b, o, none⟩) os.length c), (3, .slice A3 zs.length k3), (4, .slice A4 ss.length c4'), (5, .int .i64 ((zs.length : Int) - 1)), (6, .int .i64 (j : Int)), (7, .int .i64 (Ml.take (sts (os.take j)) os[j].1.2).2.2), (8, .slice A1 xs.length d1), (9, .pointer (some ⟨b9, 0, none⟩)), (27, .int .i64 os[j].1.1), (10, .bool (((Ml.pl ss).take i).any fun p => decide (p = px.1))), (11, .int .i64 (i : Int))]) (fun _ => [frzN (Ml.pfs A1 xs ++ [Ml.bfact px]), .cl b9 (Ml.pcell px) 25, frz w (Ml.pfs A3 zs), .row A4 c4' 25 3 ss.length (Ml.pcs ss)]) (fun i => i ≤ ss.length) (fun i => ss.length - i) (0) (Nat.zero_le _) (by repeat (first | exact Sub.nil | refine Sub.cons rfl ?_)) (fun w h => h) (fun i hi0 => ?_)
            refine GC.seq ?_
            refine GC.seq ?_
            refine GC.reg ?_
            refine GL.val (rv_move rfl) rfl ?_
            refine GL.val (rv_move rfl) rfl ?_
            refine GL.val (rv_lenSl Try.underlying22 rfl) rfl ?_
            refine GL.val (rv_lss rfl rfl) rfl ?_
            refine GL.nil ?_
            refine GX.then ?_
            first | refine GC.condP rfl (fun c11 => ?_) (fun c11 => ?_) | refine GC.cond rfl (fun c11 => ?_) (fun c11 => ?_)
            · have hi : i < ss.length := by omega
              refine GC.rowForm (k := 3) rfl fun _ hc4 hf4 => ?_
              obtain ⟨b4, rfl⟩ := hf4.resolve_left (by omega)
              refine GC.skip ?_
              refine GX.then ?_
              refine GC.seq ?_
              refine GC.block ?_
              refine GC.cutr ([(0, .slice (some ⟨b, o, none⟩) os.length c), (3, .slice A3 zs.length k3), (4, .slice (some ⟨b4, 0, none⟩) ss.length c4'), (5, .int .i64 ((zs.length : Int) - 1)), (6, .int .i64 (j : Int)), (7, .int .i64 (Ml.take (sts (os.take j)) os[j].1.2).2.2), (8, .slice A1 xs.length d1), (9, .pointer (some ⟨b9, 0, none⟩)), (27, .int .i64 os[j].1.1), (10, .bool (((Ml.pl ss).take (i + 1)).any fun p => decide (p = px.1))), (11, .int .i64 (i : Int))]) ([frzN (Ml.pfs A1 xs ++ [Ml.bfact px]), .cl b9 (Ml.pcell px) 25, frz w (Ml.pfs A3 zs), .row (some ⟨b4, 0, none⟩) c4' 25 3 ss.length (Ml.pcs ss)]) ?_ ?_
              · rw [any_take (Ml.pl ss) _ i (by rw [Ml.pl_len]; exact hi), Ml.pl_get ss i hi]
                rcases Bool.eq_false_or_eq_true (((Ml.pl ss).take i).any fun p => decide (p = px.1)) with hth | hth
                · simp only [hth, Bool.true_or]
                  refine GC.draw 10 [0, 1, 2, 3] mo_ ?_
                  refine GD.pure (i := 0) rfl (fun _ _ => rv_move rfl) (by kernel_rfl) (by repeat (first | exact noPanicPut_body | exact noPanicPut_cut | exact noPanicPut_cutE | refine noPanicPut_then ?_ | refine noPanicPut_blk ?_)) ?_
                  refine GD.pure (i := 1) rfl (fun _ _ => rv_move rfl) (by kernel_rfl) (by repeat (first | exact noPanicPut_body | exact noPanicPut_cut | exact noPanicPut_cutE | refine noPanicPut_then ?_ | refine noPanicPut_blk ?_)) ?_
                  first | refine GD.skipG (i := 2) rfl rfl (by kernel_rfl) (by repeat (first | exact noPanicPut_body | exact noPanicPut_cut | exact noPanicPut_cutE | refine noPanicPut_then ?_ | refine noPanicPut_blk ?_)) ?_ | refine GD.pureG (i := 2) rfl rfl (fun _ _ => rv_move rfl) (by kernel_rfl) (by repeat (first | exact noPanicPut_body | exact noPanicPut_cut | exact noPanicPut_cutE | refine noPanicPut_then ?_ | refine noPanicPut_blk ?_)) ?_
                  first | refine GD.skipG (i := 3) rfl rfl (by kernel_rfl) (by repeat (first | exact noPanicPut_body | exact noPanicPut_cut | exact noPanicPut_cutE | refine noPanicPut_then ?_ | refine noPanicPut_blk ?_)) ?_ | refine GD.pureG (i := 3) rfl rfl (fun _ _ => rv_move rfl) (by kernel_rfl) (by repeat (first | exact noPanicPut_body | exact noPanicPut_cut | exact noPanicPut_cutE | refine noPanicPut_then ?_ | refine noPanicPut_blk ?_)) ?_
                  first | refine GD.skipG (i := 4) rfl rfl (by kernel_rfl) (by repeat (first | exact noPanicPut_body | exact noPanicPut_cut | exact noPanicPut_cutE | refine noPanicPut_then ?_ | refine noPanicPut_blk ?_)) ?_ | refine GD.pureG (i := 4) rfl rfl (fun _ _ => rv_elem es_22 rfl rfl (by omega) (by omega)) (by kernel_rfl) (by repeat (first | exact noPanicPut_body | exact noPanicPut_cut | exact noPanicPut_cutE | refine noPanicPut_then ?_ | refine noPanicPut_blk ?_)) ?_
                  first | refine GD.skipG (i := 5) rfl rfl (by kernel_rfl) (by repeat (first | exact noPanicPut_body | exact noPanicPut_cut | exact noPanicPut_cutE | refine noPanicPut_then ?_ | refine noPanicPut_blk ?_)) ?_ | refine GD.readG (i := 5) rfl rfl (rv_loadA ag_25 rfl (Hd.rowCells (k := 3) (us := Ml.pcell ss[i]) rfl (by simpa [Ml.pcell] using pcs_at ss i hi)) (by exact sz_25)) (by kernel_rfl) (by repeat (first | exact noPanicPut_body | exact noPanicPut_cut | exact noPanicPut_cutE | refine noPanicPut_then ?_ | refine noPanicPut_blk ?_)) ?_
                  first | refine GD.skipG (i := 6) rfl rfl (by kernel_rfl) (by repeat (first | exact noPanicPut_body | exact noPanicPut_cut | exact noPanicPut_cutE | refine noPanicPut_then ?_ | refine noPanicPut_blk ?_)) ?_ | refine GD.readG (i := 6) rfl rfl (rv_loadA ag_25 rfl (by first | exact Hd.cellsAll (k := 0) rfl | exact Hd.cellsAll (k := 1) rfl | exact Hd.cellsAll (k := 2) rfl | exact Hd.cellsAll (k := 3) rfl | exact Hd.cells0 (by assumption) (by first | exact fun h => h | assumption)) (by exact sz_25)) (by kernel_rfl) (by repeat (first | exact noPanicPut_body | exact noPanicPut_cut | exact noPanicPut_cutE | refine noPanicPut_then ?_ | refine noPanicPut_blk ?_)) ?_
                  first | refine GD.skipG (i := 7) rfl rfl (by kernel_rfl) (by repeat (first | exact noPanicPut_body | exact noPanicPut_cut | exact noPanicPut_cutE | refine noPanicPut_then ?_ | refine noPanicPut_blk ?_)) ?_ | refine GD.stepG (i := 7) (by kernel_rfl) rfl rfl (ot_call hb_14 rfl (callOk fun w hh => sameone_c ss[i] px w (hh.rd0n ((hso _ (List.getElem_mem hi)).elim fun o' h => h.2 ▸ hRo o' h.1)) (hh.frzN (k := 0) rfl (Ml.bfact px) (List.mem_append_right _ (List.mem_singleton.2 rfl)))) rfl fun _ _ => ⟨.inr fun _ h => h.pk [0, 1, 2, 3], ?_⟩)
                  refine GD.pure (i := 8) rfl (fun _ _ => (by first | exact rv_orF rfl rfl rfl | exact rv_orT rfl rfl rfl | exact rv_pickOr rfl rfl rfl)) (by kernel_rfl) (by repeat (first | exact noPanicPut_body | exact noPanicPut_cut | exact noPanicPut_cutE | refine noPanicPut_then ?_ | refine noPanicPut_blk ?_)) ?_
                  refine GD.pure (i := 9) rfl (fun _ _ => rv_assign rfl) (by kernel_rfl) (by repeat (first | exact noPanicPut_body | exact noPanicPut_cut | exact noPanicPut_cutE | refine noPanicPut_then ?_ | refine noPanicPut_blk ?_)) ?_
                  refine GD.done (by kernel_rfl) ?_
                  exact GX.cut (by repeat (first | exact Sub.nil | refine Sub.cons rfl ?_)) (fun w h => h)
                · simp only [hth, Bool.false_or]
                  refine GC.draw 10 [0, 1, 2, 3] mo_ ?_
                  refine GD.pure (i := 0) rfl (fun _ _ => rv_move rfl) (by kernel_rfl) (by repeat (first | exact noPanicPut_body | exact noPanicPut_cut | exact noPanicPut_cutE | refine noPanicPut_then ?_ | refine noPanicPut_blk ?_)) ?_
                  refine GD.pure (i := 1) rfl (fun _ _ => rv_move rfl) (by kernel_rfl) (by repeat (first | exact noPanicPut_body | exact noPanicPut_cut | exact noPanicPut_cutE | refine noPanicPut_then ?_ | refine noPanicPut_blk ?_)) ?_
                  first | refine GD.skipG (i := 2) rfl rfl (by kernel_rfl) (by repeat (first | exact noPanicPut_body | exact noPanicPut_cut | exact noPanicPut_cutE | refine noPanicPut_then ?_ | refine noPanicPut_blk ?_)) ?_ | refine GD.pureG (i := 2) rfl rfl (fun _ _ => rv_move rfl) (by kernel_rfl) (by repeat (first | exact noPanicPut_body | exact noPanicPut_cut | exact noPanicPut_cutE | refine noPanicPut_then ?_ | refine noPanicPut_blk ?_)) ?_
                  first | refine GD.skipG (i := 3) rfl rfl (by kernel_rfl) (by repeat (first | exact noPanicPut_body | exact noPanicPut_cut | exact noPanicPut_cutE | refine noPanicPut_then ?_ | refine noPanicPut_blk ?_)) ?_ | refine GD.pureG (i := 3) rfl rfl (fun _ _ => rv_move rfl) (by kernel_rfl) (by repeat (first | exact noPanicPut_body | exact noPanicPut_cut | exact noPanicPut_cutE | refine noPanicPut_then ?_ | refine noPanicPut_blk ?_)) ?_
                  first | refine GD.skipG (i := 4) rfl rfl (by kernel_rfl) (by repeat (first | exact noPanicPut_body | exact noPanicPut_cut | exact noPanicPut_cutE | refine noPanicPut_then ?_ | refine noPanicPut_blk ?_)) ?_ | refine GD.pureG (i := 4) rfl rfl (fun _ _ => rv_elem es_22 rfl rfl (by omega) (by omega)) (by kernel_rfl) (by repeat (first | exact noPanicPut_body | exact noPanicPut_cut | exact noPanicPut_cutE | refine noPanicPut_then ?_ | refine noPanicPut_blk ?_)) ?_
                  first | refine GD.skipG (i := 5) rfl rfl (by kernel_rfl) (by repeat (first | exact noPanicPut_body | exact noPanicPut_cut | exact noPanicPut_cutE | refine noPanicPut_then ?_ | refine noPanicPut_blk ?_)) ?_ | refine GD.readG (i := 5) rfl rfl (rv_loadA ag_25 rfl (Hd.rowCells (k := 3) (us := Ml.pcell ss[i]) rfl (by simpa [Ml.pcell] using pcs_at ss i hi)) (by exact sz_25)) (by kernel_rfl) (by repeat (first | exact noPanicPut_body | exact noPanicPut_cut | exact noPanicPut_cutE | refine noPanicPut_then ?_ | refine noPanicPut_blk ?_)) ?_
                  first | refine GD.skipG (i := 6) rfl rfl (by kernel_rfl) (by repeat (first | exact noPanicPut_body | exact noPanicPut_cut | exact noPanicPut_cutE | refine noPanicPut_then ?_ | refine noPanicPut_blk ?_)) ?_ | refine GD.readG (i := 6) rfl rfl (rv_loadA ag_25 rfl (by first | exact Hd.cellsAll (k := 0) rfl | exact Hd.cellsAll (k := 1) rfl | exact Hd.cellsAll (k := 2) rfl | exact Hd.cellsAll (k := 3) rfl | exact Hd.cells0 (by assumption) (by first | exact fun h => h | assumption)) (by exact sz_25)) (by kernel_rfl) (by repeat (first | exact noPanicPut_body | exact noPanicPut_cut | exact noPanicPut_cutE | refine noPanicPut_then ?_ | refine noPanicPut_blk ?_)) ?_
                  first | refine GD.skipG (i := 7) rfl rfl (by kernel_rfl) (by repeat (first | exact noPanicPut_body | exact noPanicPut_cut | exact noPanicPut_cutE | refine noPanicPut_then ?_ | refine noPanicPut_blk ?_)) ?_ | refine GD.stepG (i := 7) (by kernel_rfl) rfl rfl (ot_call hb_14 rfl (callOk fun w hh => sameone_c ss[i] px w (hh.rd0n ((hso _ (List.getElem_mem hi)).elim fun o' h => h.2 ▸ hRo o' h.1)) (hh.frzN (k := 0) rfl (Ml.bfact px) (List.mem_append_right _ (List.mem_singleton.2 rfl)))) rfl fun _ _ => ⟨.inr fun _ h => h.pk [0, 1, 2, 3], ?_⟩)
                  refine GD.pure (i := 8) rfl (fun _ _ => (by first | exact rv_orF rfl rfl rfl | exact rv_orT rfl rfl rfl | exact rv_pickOr rfl rfl rfl)) (by kernel_rfl) (by repeat (first | exact noPanicPut_body | exact noPanicPut_cut | exact noPanicPut_cutE | refine noPanicPut_then ?_ | refine noPanicPut_blk ?_)) ?_
                  refine GD.pure (i := 9) rfl (fun _ _ => rv_assign rfl) (by kernel_rfl) (by repeat (first | exact noPanicPut_body | exact noPanicPut_cut | exact noPanicPut_cutE | refine noPanicPut_then ?_ | refine noPanicPut_blk ?_)) ?_
                  refine GD.done (by kernel_rfl) ?_
                  exact GX.cut (by repeat (first | exact Sub.nil | refine Sub.cons rfl ?_)) (fun w h => h)
              refine GX.blk ?_
              refine GX.then ?_
              refine GC.reg ?_
              refine GL.val (rv_move rfl) rfl ?_
              refine GL.val (rv_add rfl rfl (by omega) (by omega)) rfl ?_
              refine GL.val (rv_assign rfl) rfl ?_
              refine GL.nil ?_
              exact GX.round (i + 1) (by omega) (by omega) (by repeat (first | exact Sub.nil | refine Sub.cons rfl ?_)) (fun w h => h)
            · obtain rfl : i = ss.length := by omega
              have hth : (((Ml.pl ss).take ss.length).any fun p => decide (p = px.1)) = true := by
                rw [List.take_of_length_le (by rw [Ml.pl_len]; exact Nat.le_refl _), List.any_eq_true]
                exact ⟨px.1, hin _ (by rw [ha, hpx]; exact (take_ok' c10).2.2), by simp⟩
              refine GC.exit ?_
              refine GX.then_exit ?_
              refine GX.then_exit ?_
              refine GX.blk_eq ?_
              refine GX.then ?_
              refine GC.seq ?_
              refine GC.reg ?_
              refine GL.val (rv_move rfl) rfl ?_
              refine GL.val (rv_not rfl) rfl ?_
              refine GL.nil ?_
              refine GX.then ?_
              first | refine GC.condP rfl (fun c12 => ?_) (fun c12 => ?_) | refine GC.cond rfl (fun c12 => ?_) (fun c12 => ?_)
              · rw [hth] at c12; simp at c12
              · refine GC.skip ?_
                refine GX.blk ?_
                refine GX.then ?_
                refine GC.seq ?_
                refine GC.seq ?_
                refine GC.reg ?_
                refine GL.val (rv_move rfl) rfl ?_
                refine GL.val (rv_eqI rfl rfl) rfl ?_
                refine GL.nil ?_
                refine GX.then ?_
                first | refine GC.condP rfl (fun c13 => ?_) (fun c13 => ?_) | refine GC.cond rfl (fun c13 => ?_) (fun c13 => ?_)
                · refine GC.reg ?_
                  refine GL.val (rv_move rfl) rfl ?_
                  refine GL.val (rv_assign rfl) rfl ?_
                  refine GL.nil ?_
                  refine GX.then ?_
                  refine GC.seq ?_
                  refine GC.reg ?_
                  refine GL.val (rv_move rfl) rfl ?_
                  refine GL.val (rv_lenSl Try.underlying22 rfl) rfl ?_
                  refine GL.val (rv_move rfl) rfl ?_
                  refine GL.val ((by first | exact rv_to (v' := .bool true) (rv_neI rfl rfl) (by simp only [Value.bool.injEq, decide_eq_true_eq, decide_eq_false_iff_not]; omega) | exact rv_to (v' := .bool false) (rv_neI rfl rfl) (by simp only [Value.bool.injEq, decide_eq_true_eq, decide_eq_false_iff_not]; omega))) rfl ?_
                  refine GL.nil ?_
                  refine GX.then ?_
                  first | refine GC.condP rfl (fun c14 => ?_) (fun c14 => ?_) | refine GC.cond rfl (fun c14 => ?_) (fun c14 => ?_)
                  · exact absurd c14 (by simp)
                  · refine GC.skip ?_
                    refine GX.blk ?_
                    refine GX.then ?_
                    refine GC.reg ?_
                    refine GL.val (rv_move rfl) rfl ?_
                    refine GL.val (rv_add rfl rfl (by omega) (by omega)) rfl ?_
                    refine GL.val (rv_assign rfl) rfl ?_
                    refine GL.nil ?_
                    have hso' := hso
                    have hst : Ml.pl xs = sts (os.take (j + 1)) := by rw [sts_take os j hlt]; unfold stf nxt res; simp [c3, c9, c10, hx]
                    have hin' : ∀ p ∈ Ml.pl xs, p ∈ Ml.pl ss := fun p hp => hin p (by rw [ha]; rw [hx] at hp; exact (take_ok' c10).2.1 p hp)
                    exact GX.round (j + 1, ((A1, d1), xs), ((A4, c4'), ss)) (by show _ - (j + 1) < _ - j; omega) ⟨by show j + 1 ≤ _; omega, hst, hso', by dsimp only; omega, hin'⟩ (by dsimp only; rw [show ((xs.length : Nat) : Int) = (zs.length : Int) - 1 by omega]; exact (by repeat (first | exact Sub.nil | refine Sub.cons rfl ?_))) (fun w h => frzNew (m := Ml.pfs A1 xs) (h.drop 1) (fun f hf => .inl (List.mem_append_left _ hf)))
                · exact absurd c10 c13
          · refine GC.skip ?_
            refine GX.blk ?_
            refine GX.then ?_
            refine GC.seq ?_
            refine GC.seq ?_
            refine GC.reg ?_
            refine GL.val (rv_move rfl) rfl ?_
            refine GL.val (rv_eqI rfl rfl) rfl ?_
            refine GL.nil ?_
            refine GX.then ?_
            first | refine GC.condP rfl (fun c15 => ?_) (fun c15 => ?_) | refine GC.cond rfl (fun c15 => ?_) (fun c15 => ?_)
            · exact absurd c15 c10
            · refine GC.skip ?_
              refine GX.then ?_
              refine GC.seq ?_
              refine GC.reg ?_
              refine GL.val (rv_move rfl) rfl ?_
              refine GL.val (rv_lenSl Try.underlying22 rfl) rfl ?_
              refine GL.val (rv_move rfl) rfl ?_
              refine GL.val ((by first | exact rv_to (v' := .bool true) (rv_neI rfl rfl) (by simp only [Value.bool.injEq, decide_eq_true_eq, decide_eq_false_iff_not]; omega) | exact rv_to (v' := .bool false) (rv_neI rfl rfl) (by simp only [Value.bool.injEq, decide_eq_true_eq, decide_eq_false_iff_not]; omega))) rfl ?_
              refine GL.nil ?_
              refine GX.then ?_
              first | refine GC.condP rfl (fun c16 => ?_) (fun c16 => ?_) | refine GC.cond rfl (fun c16 => ?_) (fun c16 => ?_)
              · exact absurd c16 (by simp)
              · refine GC.skip ?_
                refine GX.blk ?_
                refine GX.then ?_
                refine GC.reg ?_
                refine GL.val (rv_move rfl) rfl ?_
                refine GL.val (rv_add rfl rfl (by omega) (by omega)) rfl ?_
                refine GL.val (rv_assign rfl) rfl ?_
                refine GL.nil ?_
                have hso' := hso
                have hin' := hin
                have hst : Ml.pl zs = sts (os.take (j + 1)) := by rw [sts_take os j hlt]; unfold stf nxt res; simp [c3, c9, c10, ha]
                exact GX.round (j + 1, ((A3, k3), zs), ((A4, c4'), ss)) (by show _ - (j + 1) < _ - j; omega) ⟨by show j + 1 ≤ _; omega, hst, hso', by dsimp only; omega, hin'⟩ (by dsimp only; exact (by repeat (first | exact Sub.nil | refine Sub.cons rfl ?_))) (fun w h => (h.drop 0).drop 0)
        · refine GC.seq ?_
          refine GC.reg ?_
          refine GL.val (rv_eqI rfl rfl) rfl ?_
          refine GL.val (rv_assign rfl) rfl ?_
          refine GL.nil ?_
          refine GX.then ?_
          first | refine GC.condP rfl (fun c17 => ?_) (fun c17 => ?_) | refine GC.cond rfl (fun c17 => ?_) (fun c17 => ?_)
          · refine GC.seq ?_
            refine GC.reg ?_
            refine GL.val (rv_move rfl) rfl ?_
            refine GL.val (rv_move rfl) rfl ?_
            refine GL.val (rv_move rfl) rfl ?_
            refine GL.val (rv_elem es_29 rfl rfl (by omega) (by omega)) rfl ?_
            refine GL.val (rv_field fo_27_1 rfl rfl) rfl ?_
            refine GL.val (rv_load ag_3 rfl (Hd.cell0 (oc1 hC hlt) (fun h => h))) rfl ?_
            refine GL.step (ot_call hb_15 rfl (callOk fun w hh => double_c A3 _ k3 zs w (fun f hf => hh.frz (k := 0) rfl f hf) rfl (by omega) hbs os[j].1.2) rfl fun gx hx => ?_)
            obtain ⟨⟨A1, d1⟩, xs⟩ := gx
            dsimp only at hx
            rw [ha] at hx ⊢
            refine GL.val (rv_move rfl) rfl ?_
            refine GL.val (rv_extract rfl rfl) rfl ?_
            refine GL.val (rv_extract rfl rfl) rfl ?_
            refine GL.val (rv_assign rfl) rfl ?_
            refine GL.val (rv_assign rfl) rfl ?_
            refine GL.nil ?_
            refine GX.then ?_
            refine GC.seq ?_
            refine GC.reg ?_
            refine GL.val (rv_move rfl) rfl ?_
            refine GL.val (rv_eqI rfl rfl) rfl ?_
            refine GL.nil ?_
            refine GX.then ?_
            first | refine GC.condP rfl (fun c18 => ?_) (fun c18 => ?_) | refine GC.cond rfl (fun c18 => ?_) (fun c18 => ?_)
            · have hxl : xs.length = zs.length + 1 := by
                obtain ⟨q, _, e⟩ := double_ok c18
                rw [← Ml.pl_len xs, hx, e, ← ha]; simp [Ml.pl_len]
              refine GC.reg ?_
              refine GL.val (rv_move rfl) rfl ?_
              refine GL.val (rv_add rfl rfl (by omega) (by omega)) rfl ?_
              refine GL.val (rv_assign rfl) rfl ?_
              refine GL.nil ?_
              refine GX.blk ?_
              refine GX.then ?_
              refine GC.seq ?_
              refine GC.seq ?_
              refine GC.reg ?_
              refine GL.val (rv_move rfl) rfl ?_
              refine GL.val (rv_eqI rfl rfl) rfl ?_
              refine GL.nil ?_
              refine GX.then ?_
              first | refine GC.condP rfl (fun c19 => ?_) (fun c19 => ?_) | refine GC.cond rfl (fun c19 => ?_) (fun c19 => ?_)
              · refine GC.reg ?_
                refine GL.val (rv_move rfl) rfl ?_
                refine GL.val (rv_assign rfl) rfl ?_
                refine GL.nil ?_
                refine GX.then ?_
                refine GC.seq ?_
                refine GC.reg ?_
                refine GL.val (rv_move rfl) rfl ?_
                refine GL.val (rv_lenSl Try.underlying22 rfl) rfl ?_
                refine GL.val (rv_move rfl) rfl ?_
                refine GL.val ((by first | exact rv_to (v' := .bool true) (rv_neI rfl rfl) (by simp only [Value.bool.injEq, decide_eq_true_eq, decide_eq_false_iff_not]; omega) | exact rv_to (v' := .bool false) (rv_neI rfl rfl) (by simp only [Value.bool.injEq, decide_eq_true_eq, decide_eq_false_iff_not]; omega))) rfl ?_
                refine GL.nil ?_
                refine GX.then ?_
                first | refine GC.condP rfl (fun c20 => ?_) (fun c20 => ?_) | refine GC.cond rfl (fun c20 => ?_) (fun c20 => ?_)
                · exact absurd c20 (by simp)
                · refine GC.skip ?_
                  refine GX.blk ?_
                  refine GX.then ?_
                  refine GC.reg ?_
                  refine GL.val (rv_move rfl) rfl ?_
                  refine GL.val (rv_add rfl rfl (by omega) (by omega)) rfl ?_
                  refine GL.val (rv_assign rfl) rfl ?_
                  refine GL.nil ?_
                  have hso' := hso
                  have hst : Ml.pl xs = sts (os.take (j + 1)) := by rw [sts_take os j hlt]; unfold stf nxt res; simp [c3, c9, c17, c18, hx]
                  have hin' : ∀ p ∈ Ml.pl xs, p ∈ Ml.pl ss := fun p hp => hin p (by
                    rw [ha]
                    obtain ⟨q, hq, e⟩ := double_ok c18
                    rw [hx, e] at hp
                    exact (List.mem_append.1 hp).elim id (fun h => List.mem_singleton.1 h ▸ hq))
                  exact GX.round (j + 1, ((A1, d1), xs), ((A4, c4'), ss)) (by show _ - (j + 1) < _ - j; omega) ⟨by show j + 1 ≤ _; omega, hst, hso', by dsimp only; omega, hin'⟩ (by dsimp only; rw [show ((xs.length : Nat) : Int) = (zs.length : Int) + 1 by omega]; exact (by repeat (first | exact Sub.nil | refine Sub.cons rfl ?_))) (fun w h => frzNew (m := Ml.pfs A1 xs) h (fun f hf => .inl hf))
              · exact absurd c18 c19
            · refine GC.skip ?_
              refine GX.blk ?_
              refine GX.then ?_
              refine GC.seq ?_
              refine GC.seq ?_
              refine GC.reg ?_
              refine GL.val (rv_move rfl) rfl ?_
              refine GL.val (rv_eqI rfl rfl) rfl ?_
              refine GL.nil ?_
              refine GX.then ?_
              first | refine GC.condP rfl (fun c21 => ?_) (fun c21 => ?_) | refine GC.cond rfl (fun c21 => ?_) (fun c21 => ?_)
              · exact absurd c21 c18
              · refine GC.skip ?_
                refine GX.then ?_
                refine GC.seq ?_
                refine GC.reg ?_
                refine GL.val (rv_move rfl) rfl ?_
                refine GL.val (rv_lenSl Try.underlying22 rfl) rfl ?_
                refine GL.val (rv_move rfl) rfl ?_
                refine GL.val ((by first | exact rv_to (v' := .bool true) (rv_neI rfl rfl) (by simp only [Value.bool.injEq, decide_eq_true_eq, decide_eq_false_iff_not]; omega) | exact rv_to (v' := .bool false) (rv_neI rfl rfl) (by simp only [Value.bool.injEq, decide_eq_true_eq, decide_eq_false_iff_not]; omega))) rfl ?_
                refine GL.nil ?_
                refine GX.then ?_
                first | refine GC.condP rfl (fun c22 => ?_) (fun c22 => ?_) | refine GC.cond rfl (fun c22 => ?_) (fun c22 => ?_)
                · exact absurd c22 (by simp)
                · refine GC.skip ?_
                  refine GX.blk ?_
                  refine GX.then ?_
                  refine GC.reg ?_
                  refine GL.val (rv_move rfl) rfl ?_
                  refine GL.val (rv_add rfl rfl (by omega) (by omega)) rfl ?_
                  refine GL.val (rv_assign rfl) rfl ?_
                  refine GL.nil ?_
                  have hso' := hso
                  have hin' := hin
                  have hst : Ml.pl zs = sts (os.take (j + 1)) := by rw [sts_take os j hlt]; unfold stf nxt res; simp [c3, c9, c17, c18, ha]
                  exact GX.round (j + 1, ((A3, k3), zs), ((A4, c4'), ss)) (by show _ - (j + 1) < _ - j; omega) ⟨by show j + 1 ≤ _; omega, hst, hso', by dsimp only; omega, hin'⟩ (by dsimp only; exact (by repeat (first | exact Sub.nil | refine Sub.cons rfl ?_))) (fun w h => h.drop 0)
          · refine GC.skip ?_
            refine GX.blk ?_
            refine GX.then ?_
            refine GC.seq ?_
            refine GC.seq ?_
            refine GC.reg ?_
            refine GL.val (rv_move rfl) rfl ?_
            refine GL.val (rv_eqI rfl rfl) rfl ?_
            refine GL.nil ?_
            refine GX.then ?_
            first | refine GC.condP rfl (fun c23 => ?_) (fun c23 => ?_) | refine GC.cond rfl (fun c23 => ?_) (fun c23 => ?_)
            · refine GC.reg ?_
              refine GL.val (rv_move rfl) rfl ?_
              refine GL.val (rv_assign rfl) rfl ?_
              refine GL.nil ?_
              refine GX.then ?_
              refine GC.seq ?_
              refine GC.reg ?_
              refine GL.val (rv_move rfl) rfl ?_
              refine GL.val (rv_lenSl Try.underlying22 rfl) rfl ?_
              refine GL.val (rv_move rfl) rfl ?_
              refine GL.val ((by first | exact rv_to (v' := .bool true) (rv_neI rfl rfl) (by simp only [Value.bool.injEq, decide_eq_true_eq, decide_eq_false_iff_not]; omega) | exact rv_to (v' := .bool false) (rv_neI rfl rfl) (by simp only [Value.bool.injEq, decide_eq_true_eq, decide_eq_false_iff_not]; omega))) rfl ?_
              refine GL.nil ?_
              refine GX.then ?_
              first | refine GC.condP rfl (fun c24 => ?_) (fun c24 => ?_) | refine GC.cond rfl (fun c24 => ?_) (fun c24 => ?_)
              · exact absurd c24 (by simp)
              · refine GC.skip ?_
                refine GX.blk ?_
                refine GX.then ?_
                refine GC.reg ?_
                refine GL.val (rv_move rfl) rfl ?_
                refine GL.val (rv_add rfl rfl (by omega) (by omega)) rfl ?_
                refine GL.val (rv_assign rfl) rfl ?_
                refine GL.nil ?_
                have hso' := hso
                have hin' := hin
                have hst : Ml.pl zs = sts (os.take (j + 1)) := by rw [sts_take os j hlt]; unfold stf nxt res; simp [c3, c9, c17, ha]
                exact GX.round (j + 1, ((A3, k3), zs), ((A4, c4'), ss)) (by show _ - (j + 1) < _ - j; omega) ⟨by show j + 1 ≤ _; omega, hst, hso', by dsimp only; omega, hin'⟩ (by dsimp only; exact (by repeat (first | exact Sub.nil | refine Sub.cons rfl ?_))) (fun w h => h)
            · exact absurd rfl c23
    · refine GC.exit ?_
      refine GX.then_exit ?_
      refine GX.then_exit ?_
      refine GX.blk_eq ?_
      refine GX.then ?_
      refine GC.seq ?_
      refine GC.reg ?_
      refine GL.step (ot_call hb_8 rfl (callOk fun w hh => works_c w) rfl fun _ _ => ?_)
      refine GL.val (rv_assign rfl) rfl ?_
      refine GL.nil ?_
      refine GX.then ?_
      refine GC.ret ?_
      refine GX.ret1 rfl (RR.tmp rfl) ?_
      exact fun w1 h1 => ⟨(), rfl, h1.take 0, trivial⟩
end Go.Proofs.Ytgdbcclammapnaa
