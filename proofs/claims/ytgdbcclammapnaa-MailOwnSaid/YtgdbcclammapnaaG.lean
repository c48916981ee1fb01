import Derived.Test.YtgdbcclammapnaaF
set_option linter.unusedVariables false
set_option linter.unusedSimpArgs false
namespace Go.Proofs.Ytgdbcclammapnaa
open Go Go.RowKit Go.Bz
theorem hb_10 : hasBody Try.prog 10 = true := by kernel_rfl
theorem hb_13 : hasBody Try.prog 13 = true := by kernel_rfl
def pa : Ml.Pp := (1, 2, [97])
theorem wk_e1 : Ml.send (Ml.pl []) pa = ([pa], 0) := by simp [Ml.send, Ml.pl, pa]
theorem wk_e2 (g : Option Addr × Nat) : Ml.take (Ml.pl [(pa, g)]) 5 = ([], pa, 0) := by simp [Ml.take, Ml.pl]
theorem wk_e3 : Ml.take (Ml.pl []) 0 = ([], Ml.zero, 7) := by simp [Ml.take, Ml.pl]
theorem pl_nil {qs : List Ml.Pv} (h : Ml.pl qs = []) : qs = [] := by simpa [Ml.pl] using h
theorem pl_one {qs : List Ml.Pv} {p : Ml.Pp} (h : Ml.pl qs = [p]) : ∃ g, qs = [(p, g)] := by
  match qs, h with
  | [(p', g)], h => simp [Ml.pl] at h; subst h; exact ⟨g, rfl⟩
theorem nilFs {w : World} : ∀ f ∈ Ml.pfs none [], SlR w f.1 f.2 := fun f hf => by simp [Ml.pfs, Ml.pcs] at hf; subst hf; exact .inl rfl
theorem wk_send (A : Option Addr) (w : World) (hq : SlR w A (byts [97])) : Calls Try.prog 12 [.slice none 0 0, .agg (Ml.pcell (pa, (A, 1))).toArray].toArray w fun e w' => ∃ g : (Option Addr × Nat) × (Option Addr × Nat), e = .returned (.tuple #[.slice g.1.1 1 g.1.2, .int .i64 0]) ∧ St noB w w' [frzN (Ml.pfs g.1.1 [(pa, g.2)])] ∧ True :=
  (send_c none 0 0 [] w nilFs rfl (by omega) (by simp) (pa, (A, 1)) hq (by simp [pa])).mono fun e w' ⟨g, he, hs, hp⟩ => by
    rw [wk_e1] at he hp
    obtain ⟨g1, g2⟩ := g
    obtain ⟨g', rfl⟩ := pl_one hp
    exact ⟨(g1, g'), he, hs, trivial⟩
theorem wk_take (A : Option Addr) (c : Nat) (g0 : Option Addr × Nat) (w : World) (hR : ∀ f ∈ Ml.pfs A [(pa, g0)], SlR w f.1 f.2) : Calls Try.prog 13 [.slice A 1 c, .int .i64 5].toArray w fun e w' => ∃ g : (Option Addr × Nat) × (Option Addr × Nat), e = .returned (.tuple #[.slice g.1.1 0 g.1.2, .agg (Ml.pcell (pa, g.2)).toArray, .int .i64 0]) ∧ St noB w w' [frzN (Ml.pfs g.1.1 [] ++ [Ml.bfact (pa, g.2)])] ∧ True :=
  (take_c A 1 c [(pa, g0)] w hR rfl (by omega) (by simp [pa]) 5).mono fun e w' ⟨g, he, hs, hp, hq⟩ => by
    rw [wk_e2] at he hp hq
    obtain ⟨g1, g2, p, g3⟩ := g
    dsimp only at hp hq
    subst hq
    obtain rfl := pl_nil hp
    exact ⟨(g1, g3), he, hs, trivial⟩
theorem wk_none (w : World) : Calls Try.prog 13 [.slice none 0 0, .int .i64 0].toArray w fun e w' => ∃ g : (Option Addr × Nat) × (Option Addr × Nat), e = .returned (.tuple #[.slice g.1.1 0 g.1.2, .agg (Ml.pcell (Ml.zero, g.2)).toArray, .int .i64 7]) ∧ St noB w w' [] ∧ True :=
  (take_c none 0 0 [] w nilFs rfl (by omega) (by simp) 0).mono fun e w' ⟨g, he, hs, hp, hq⟩ => by
    rw [wk_e3] at he hp hq
    obtain ⟨g1, g2, p, g3⟩ := g
    dsimp only at hp hq
    subst hq
    obtain rfl := pl_nil hp
    exact ⟨(g1, g3), he, hs.take 0, trivial⟩
theorem wk_for (A : Option Addr) (c : Nat) (g0 : Option Addr × Nat) (w : World) (hR : ∀ f ∈ Ml.pfs A [(pa, g0)], SlR w f.1 f.2) : Calls Try.prog 10 [.slice A 1 c, .int .i64 2].toArray w fun e w' => ∃ _g : Unit, e = .returned (.int .i64 1) ∧ St noB w w' [] ∧ True :=
  (for_c A 1 c [(pa, g0)] w hR rfl (by omega) 2).mono fun e w' ⟨g, he, hs, _⟩ => ⟨(), by rw [he]; simp [Ml.cnt, Ml.pl, pa], hs, trivial⟩
set_option maxRecDepth 100000 in
set_option maxHeartbeats 1000000 in
theorem works_c (w : World) : Calls Try.prog 8 [].toArray w fun e w' => ∃ _g : Unit, e = .returned (.bool true) ∧ St noB w w' [] ∧ True := by
  refine GC.calls Try.func8 rfl rfl (St.begin _) ?_
  refine GC.seq ?_
  refine GC.reg ?_
  refine GL.val (rv_assign rfl) rfl ?_
  refine GL.nil ?_
  refine GX.then ?_
  refine GC.seq ?_
  refine GC.reg ?_
  refine GL.step (ot_buildSlice ei_23 rfl rfl rfl rfl rfl rfl fun b10 => ?_)
  refine GL.step (ot_mark (k := 0) Try.underlying23 Try.underlying5 rfl rfl rfl ?_)
  refine GL.st (fun w h => h.roFrz (k := 0) rfl) ?_
  refine GL.val (rv_buildS pl_25 zb_25 rfl rfl (by first | ((simp only [bldL, repl, List.set_cons_zero, List.set_cons_succ, List.getElem?_cons_zero, List.getElem?_cons_succ, Option.getD_some, Value.cells]) <;> rfl) | rfl)) rfl ?_
  refine GL.step (ot_call hb_12 rfl (callOk fun w hh => wk_send (some ⟨b10, 0, none⟩) w (by have := hh.frzN (k := 0) rfl _ (List.mem_singleton.2 rfl); exact this)) rfl fun ⟨⟨A13, c13⟩, g13⟩ _ => ?_)
  refine GL.val (rv_move rfl) rfl ?_
  refine GL.val (rv_extract rfl rfl) rfl ?_
  refine GL.val (rv_extract rfl rfl) rfl ?_
  refine GL.val (rv_assign rfl) rfl ?_
  refine GL.val (rv_assign rfl) rfl ?_
  refine GL.nil ?_
  refine GX.then ?_
  refine GC.seq ?_
  refine GC.reg ?_
  refine GL.val (rv_move rfl) rfl ?_
  refine GL.step (ot_call hb_13 rfl (callOk fun w hh => wk_take A13 c13 g13 w (hh.frzN (k := 0) rfl)) rfl fun ⟨⟨A18, c18⟩, g18⟩ _ => ?_)
  refine GL.val (rv_move rfl) rfl ?_
  refine GL.val (rv_extract rfl rfl) rfl ?_
  refine GL.val (rv_extract rfl rfl) rfl ?_
  refine GL.val (rv_extract rfl rfl) rfl ?_
  refine GL.step (ot_alloc (zs := [.int .i64 0, .int .i64 0, .slice none 0 0]) zb_25 rfl rfl fun b4 => ?_)
  refine GL.val (rv_assign rfl) rfl ?_
  first | refine GL.step (ot_store (k := 0) rfl rfl rfl rfl sz_25 rfl rfl (by first | ((simp only [repl, List.set_cons_zero, List.set_cons_succ]) <;> rfl) | rfl) ?_) | refine GL.step (ot_store (k := 1) rfl rfl rfl rfl sz_25 rfl rfl (by first | ((simp only [repl, List.set_cons_zero, List.set_cons_succ]) <;> rfl) | rfl) ?_) | refine GL.step (ot_store (k := 2) rfl rfl rfl rfl sz_25 rfl rfl (by first | ((simp only [repl, List.set_cons_zero, List.set_cons_succ]) <;> rfl) | rfl) ?_) | refine GL.step (ot_store (k := 3) rfl rfl rfl rfl sz_25 rfl rfl (by first | ((simp only [repl, List.set_cons_zero, List.set_cons_succ]) <;> rfl) | rfl) ?_)
  refine GL.val (rv_assign rfl) rfl ?_
  refine GL.nil ?_
  refine GX.then ?_
  refine GC.seq ?_
  refine GC.reg ?_
  refine GL.step (ot_call hb_13 rfl (callOk fun w hh => wk_none w) rfl fun ⟨⟨A23, c23⟩, g23⟩ _ => ?_)
  refine GL.val (rv_move rfl) rfl ?_
  refine GL.val (rv_extract rfl rfl) rfl ?_
  refine GL.val (rv_extract rfl rfl) rfl ?_
  refine GL.val (rv_extract rfl rfl) rfl ?_
  refine GL.step (ot_alloc (zs := [.int .i64 0, .int .i64 0, .slice none 0 0]) zb_25 rfl rfl fun b7 => ?_)
  refine GL.val (rv_assign rfl) rfl ?_
  first | refine GL.step (ot_store (k := 0) rfl rfl rfl rfl sz_25 rfl rfl (by first | ((simp only [repl, List.set_cons_zero, List.set_cons_succ]) <;> rfl) | rfl) ?_) | refine GL.step (ot_store (k := 1) rfl rfl rfl rfl sz_25 rfl rfl (by first | ((simp only [repl, List.set_cons_zero, List.set_cons_succ]) <;> rfl) | rfl) ?_) | refine GL.step (ot_store (k := 2) rfl rfl rfl rfl sz_25 rfl rfl (by first | ((simp only [repl, List.set_cons_zero, List.set_cons_succ]) <;> rfl) | rfl) ?_) | refine GL.step (ot_store (k := 3) rfl rfl rfl rfl sz_25 rfl rfl (by first | ((simp only [repl, List.set_cons_zero, List.set_cons_succ]) <;> rfl) | rfl) ?_) | refine GL.step (ot_store (k := 4) rfl rfl rfl rfl sz_25 rfl rfl (by first | ((simp only [repl, List.set_cons_zero, List.set_cons_succ]) <;> rfl) | rfl) ?_)
  refine GL.val (rv_assign rfl) rfl ?_
  refine GL.nil ?_
  refine GX.then ?_
  refine GC.seq ?_
  refine GC.reg ?_
  refine GL.val (rv_move rfl) rfl ?_
  refine GL.val (rv_to (v' := .bool true) (rv_eqI rfl rfl) (by simp)) rfl ?_
  refine GL.val (rv_move rfl) rfl ?_
  first | refine GL.skipG rfl rfl ?_ | refine GL.skipU rfl rfl ?_ | refine GL.valT rfl (rv_move rfl) rfl ?_ | refine GL.valG rfl (fun hb => rv_move (by first | exact evb rfl hb | rfl)) rfl ?_
  first | refine GL.skipG rfl rfl ?_ | refine GL.skipU rfl rfl ?_ | refine GL.valT rfl (rv_lenSl Try.underlying22 rfl) rfl ?_ | refine GL.valG rfl (fun hb => rv_lenSl Try.underlying22 (by first | exact evb rfl hb | rfl)) rfl ?_
  first | refine GL.skipG rfl rfl ?_ | refine GL.skipU rfl rfl ?_ | refine GL.valT rfl (rv_to (v' := .bool true) (rv_eqI rfl rfl) (by simp)) rfl ?_ | refine GL.valG rfl (fun hb => rv_to (v' := .bool true) (rv_eqI (by first | exact evb rfl hb | rfl) (by first | exact evb rfl hb | rfl)) (by simp)) rfl ?_
  refine GL.val ((by first | exact rv_andT rfl rfl rfl | exact rv_andF rfl rfl rfl | exact rv_pickAnd rfl rfl rfl)) rfl ?_
  refine GL.val (rv_move rfl) rfl ?_
  first | refine GL.skipG rfl rfl ?_ | refine GL.skipU rfl rfl ?_ | refine GL.valT rfl (rv_move rfl) rfl ?_ | refine GL.valG rfl (fun hb => rv_move (by first | exact evb rfl hb | rfl)) rfl ?_
  first | refine GL.skipG rfl rfl ?_ | refine GL.skipU rfl rfl ?_ | refine GL.valT rfl (rv_to (v' := .bool true) (rv_eqI rfl rfl) (by simp)) rfl ?_ | refine GL.valG rfl (fun hb => rv_to (v' := .bool true) (rv_eqI (by first | exact evb rfl hb | rfl) (by first | exact evb rfl hb | rfl)) (by simp)) rfl ?_
  refine GL.val ((by first | exact rv_andT rfl rfl rfl | exact rv_andF rfl rfl rfl | exact rv_pickAnd rfl rfl rfl)) rfl ?_
  refine GL.val (rv_move rfl) rfl ?_
  first | refine GL.skipG rfl rfl ?_ | refine GL.skipU rfl rfl ?_ | refine GL.valT rfl (rv_move rfl) rfl ?_ | refine GL.valG rfl (fun hb => rv_move (by first | exact evb rfl hb | rfl)) rfl ?_
  first | refine GL.skipG rfl rfl ?_ | refine GL.skipU rfl rfl ?_ | refine GL.valT rfl (rv_lenSl Try.underlying22 rfl) rfl ?_ | refine GL.valG rfl (fun hb => rv_lenSl Try.underlying22 (by first | exact evb rfl hb | rfl)) rfl ?_
  first | refine GL.skipG rfl rfl ?_ | refine GL.skipU rfl rfl ?_ | refine GL.valT rfl (rv_to (v' := .bool true) (rv_eqI rfl rfl) (by simp)) rfl ?_ | refine GL.valG rfl (fun hb => rv_to (v' := .bool true) (rv_eqI (by first | exact evb rfl hb | rfl) (by first | exact evb rfl hb | rfl)) (by simp)) rfl ?_
  refine GL.val ((by first | exact rv_andT rfl rfl rfl | exact rv_andF rfl rfl rfl | exact rv_pickAnd rfl rfl rfl)) rfl ?_
  refine GL.val (rv_move rfl) rfl ?_
  first | refine GL.skipG rfl rfl ?_ | refine GL.skipU rfl rfl ?_ | refine GL.valT rfl (rv_field fo_25_2 rfl rfl) rfl ?_ | refine GL.valG rfl (fun hb => rv_field fo_25_2 (by first | exact evb rfl hb | rfl) (by first | exact evb rfl hb | rfl)) rfl ?_
  first | refine GL.skipG rfl rfl ?_ | refine GL.skipU rfl rfl ?_ | refine GL.valT rfl (rv_load ag_23 rfl (by first | exact Hd.cell (k := 0) rfl rfl | exact Hd.cell (k := 1) rfl rfl | exact Hd.cell (k := 2) rfl rfl | exact Hd.cell (k := 3) rfl rfl | exact Hd.cell (k := 4) rfl rfl | exact Hd.rowCell (k := 0) rfl (by assumption) | exact Hd.rowCell (k := 1) rfl (by assumption) | exact Hd.rowCell (k := 2) rfl (by assumption) | exact Hd.rowCell (k := 3) rfl (by assumption) | exact Hd.rowCell (k := 4) rfl (by assumption) | exact Hd.cell0 (by assumption) (by first | exact fun h => h | assumption))) rfl ?_ | refine GL.valG rfl (fun hb => rv_load ag_23 (by first | exact evb rfl hb | rfl) (by first | exact Hd.cell (k := 0) (by first | exact evb rfl hb | rfl) (by first | exact evb rfl hb | rfl) | exact Hd.cell (k := 1) (by first | exact evb rfl hb | rfl) (by first | exact evb rfl hb | rfl) | exact Hd.cell (k := 2) (by first | exact evb rfl hb | rfl) (by first | exact evb rfl hb | rfl) | exact Hd.cell (k := 3) (by first | exact evb rfl hb | rfl) (by first | exact evb rfl hb | rfl) | exact Hd.cell (k := 4) (by first | exact evb rfl hb | rfl) (by first | exact evb rfl hb | rfl) | exact Hd.rowCell (k := 0) (by first | exact evb rfl hb | rfl) (by assumption) | exact Hd.rowCell (k := 1) (by first | exact evb rfl hb | rfl) (by assumption) | exact Hd.rowCell (k := 2) (by first | exact evb rfl hb | rfl) (by assumption) | exact Hd.rowCell (k := 3) (by first | exact evb rfl hb | rfl) (by assumption) | exact Hd.rowCell (k := 4) (by first | exact evb rfl hb | rfl) (by assumption) | exact Hd.cell0 (by assumption) (by first | exact fun h => h | assumption))) rfl ?_
  first | refine GL.skipG rfl rfl ?_ | refine GL.skipU rfl rfl ?_ | refine GL.valT rfl (rv_convBS (b := [97]) Try.underlying23 Try.underlying5 Try.underlying9 rfl (fun w h => h.frzN (k := 2) rfl _ (List.mem_append_right _ (List.mem_singleton.2 rfl))) rfl) rfl ?_ | refine GL.valG rfl (fun hb => rv_convBS (b := [97]) Try.underlying23 Try.underlying5 Try.underlying9 (by first | exact evb rfl hb | rfl) (fun w h => h.frzN (k := 2) (by first | exact evb rfl hb | rfl) _ (List.mem_append_right _ (List.mem_singleton.2 (by first | exact evb rfl hb | rfl)))) (by first | exact evb rfl hb | rfl)) rfl ?_
  first | refine GL.skipG rfl rfl ?_ | refine GL.skipU rfl rfl ?_ | refine GL.valT rfl (rv_to (v' := .bool true) (rv_eqS rfl rfl) (by simp)) rfl ?_ | refine GL.valG rfl (fun hb => rv_to (v' := .bool true) (rv_eqS (by first | exact evb rfl hb | rfl) (by first | exact evb rfl hb | rfl)) (by simp)) rfl ?_
  refine GL.val ((by first | exact rv_andT rfl rfl rfl | exact rv_andF rfl rfl rfl | exact rv_pickAnd rfl rfl rfl)) rfl ?_
  refine GL.val (rv_move rfl) rfl ?_
  first | refine GL.skipG rfl rfl ?_ | refine GL.skipU rfl rfl ?_ | refine GL.valT rfl (rv_move rfl) rfl ?_ | refine GL.valG rfl (fun hb => rv_move (by first | exact evb rfl hb | rfl)) rfl ?_
  first | refine GL.skipG rfl rfl ?_ | refine GL.skipU rfl rfl ?_ | refine GL.valT rfl (rv_to (v' := .bool true) (rv_eqI rfl rfl) (by simp)) rfl ?_ | refine GL.valG rfl (fun hb => rv_to (v' := .bool true) (rv_eqI (by first | exact evb rfl hb | rfl) (by first | exact evb rfl hb | rfl)) (by simp)) rfl ?_
  refine GL.val ((by first | exact rv_andT rfl rfl rfl | exact rv_andF rfl rfl rfl | exact rv_pickAnd rfl rfl rfl)) rfl ?_
  refine GL.val (rv_move rfl) rfl ?_
  first | refine GL.skipG rfl rfl ?_ | refine GL.skipU rfl rfl ?_ | refine GL.valT rfl (rv_move rfl) rfl ?_ | refine GL.valG rfl (fun hb => rv_move (by first | exact evb rfl hb | rfl)) rfl ?_
  first | refine GL.skipG rfl rfl ?_ | refine GL.skipU rfl rfl ?_ | refine GL.stepG rfl (ot_call hb_10 rfl (callOk fun w hh => wk_for A13 c13 g13 w (hh.frzN (k := 3) rfl)) rfl fun _ _ => ?_)
  first | refine GL.skipG rfl rfl ?_ | refine GL.skipU rfl rfl ?_ | refine GL.valT rfl (rv_to (v' := .bool true) (rv_eqI rfl rfl) (by simp)) rfl ?_ | refine GL.valG rfl (fun hb => rv_to (v' := .bool true) (rv_eqI (by first | exact evb rfl hb | rfl) (by first | exact evb rfl hb | rfl)) (by simp)) rfl ?_
  refine GL.val ((by first | exact rv_andT rfl rfl rfl | exact rv_andF rfl rfl rfl | exact rv_pickAnd rfl rfl rfl)) rfl ?_
  refine GL.val (rv_assign rfl) rfl ?_
  refine GL.nil ?_
  refine GX.then ?_
  refine GC.ret ?_
  refine GX.ret1 rfl (RR.tmp rfl) ?_
  exact fun w1 h1 => ⟨(), rfl, h1.take 0, trivial⟩
end Go.Proofs.Ytgdbcclammapnaa
