import Derived.Test.YtgdbcclammapnaaG
set_option linter.unusedVariables false
set_option linter.unusedSimpArgs false
namespace Go.Proofs.Ytgdbcclammapnaa
open Go Go.RowKit Go.Bz
theorem fo_27_0 : fieldOff Try.prog 27 0 = some 0 := by kernel_rfl
theorem fo_27_1 : fieldOff Try.prog 27 1 = some 1 := by kernel_rfl
theorem hb_15 : hasBody Try.prog 15 = true := by kernel_rfl
theorem hb_18 : hasBody Try.prog 18 = true := by kernel_rfl
theorem hb_19 : hasBody Try.prog 19 = true := by kernel_rfl
/-- what an act answers; and what it leaves -/
def res (l : List Ml.Pp) (k n : Int) (p : Ml.Pp) : List Ml.Pp × Ml.Pp × Int :=
  if k = 0 then ((Ml.send l p).1, Ml.zero, (Ml.send l p).2) else if k = 1 then Ml.take l n else if k = 2 then ((Ml.double l n).1, Ml.zero, (Ml.double l n).2) else (l, Ml.zero, 0)
def nxt (l : List Ml.Pp) (k n : Int) (p : Ml.Pp) : List Ml.Pp := if (res l k n p).2.2 ≠ 0 then l else (res l k n p).1
theorem send_len (l : List Ml.Pp) (p : Ml.Pp) : (Ml.send l p).1.length ≤ l.length + 1 := by
  unfold Ml.send; split
  · simp
  · split
    · simp
    · split <;> simp
theorem take_len (l : List Ml.Pp) (z : Int) : (Ml.take l z).1.length ≤ l.length + 1 := by
  unfold Ml.take; split
  · simp
  · split
    · simp
    · have := List.length_eraseIdx_le l (z.tmod l.length).toNat; dsimp only; omega
theorem double_len (l : List Ml.Pp) (z : Int) : (Ml.double l z).1.length ≤ l.length + 1 := by
  unfold Ml.double; split
  · simp
  · split
    · simp
    · exact send_len _ _
theorem same_b (A B : Option Addr) (n m c d : Nat) (ps qs : List Ml.Pv) (w : World) (hR : ∀ f ∈ Ml.pfs A ps, SlR w f.1 f.2) (hR' : ∀ f ∈ Ml.pfs B qs, SlR w f.1 f.2) (hl : ps.length = n) (hl' : qs.length = m) (hn : n ≤ 1000000) (e : Ml.pl ps = Ml.pl qs) :
    Calls Try.prog 19 [.slice A n c, .slice B m d].toArray w fun e w' => ∃ _g : Unit, e = .returned (.bool true) ∧ St noB w w' [] ∧ True := by
  have := same_c A B n m c d ps qs w hR hR' hl hl' hn
  rwa [decide_eq_true e] at this
theorem sameone_b (q r : Ml.Pv) (w : World) (hR : SlR w q.2.1 (byts q.1.2.2)) (hR' : SlR w r.2.1 (byts r.1.2.2)) (e : q.1 = r.1) :
    Calls Try.prog 14 [.agg (Ml.pcell q).toArray, .agg (Ml.pcell r).toArray].toArray w fun e w' => ∃ _g : Unit, e = .returned (.bool true) ∧ St noB w w' [] ∧ True := by
  have := sameone_c q r w hR hR'
  rwa [decide_eq_true e] at this
theorem pfR {w : World} {A : Option Addr} {ps : List Ml.Pv} (h1 : SlR w A (Ml.pcs ps)) (h2 : ∀ r ∈ ps, SlR w r.2.1 (byts r.1.2.2)) : ∀ f ∈ Ml.pfs A ps, SlR w f.1 f.2 := fun f hf => by
  rcases List.mem_cons.1 hf with rfl | hf
  · exact h1
  · obtain ⟨r, hr, rfl⟩ := List.mem_map.1 hf; exact h2 r hr
theorem bfR {w : World} {A : Option Addr} {ps : List Ml.Pv} (h : ∀ f ∈ Ml.pfs A ps, SlR w f.1 f.2) : ∀ r ∈ ps, SlR w r.2.1 (byts r.1.2.2) := fun r hr => h (Ml.bfact r) (List.mem_cons_of_mem _ (List.mem_map_of_mem hr))
theorem zR {w : World} : SlR w (Ml.zero, ((none : Option Addr), (0 : Nat))).2.1 (byts (Ml.zero, ((none : Option Addr), (0 : Nat))).1.2.2) := .inl rfl
theorem lenb {ps qs : List Ml.Pv} (h : Ml.pl ps = Ml.pl qs) (hb : ∀ q ∈ ps, q.1.2.2.length ≤ 100000000) : ∀ q ∈ qs, q.1.2.2.length ≤ 100000000 := fun q hq => by
  have : q.1 ∈ Ml.pl ps := by rw [h]; exact List.mem_map_of_mem hq
  obtain ⟨p, hp, e⟩ := List.mem_map.1 this
  rw [← e]; exact hb p hp
set_option maxRecDepth 100000 in
set_option maxHeartbeats 1000000 in
theorem step_c (A B : Option Addr) (n m c d : Nat) (psa psb : List Ml.Pv) (o : Ov) (w : World) (hRa : ∀ f ∈ Ml.pfs A psa, SlR w f.1 f.2) (hRb : ∀ f ∈ Ml.pfs B psb, SlR w f.1 f.2) (ho : SlR w o.2.2.1 (byts o.2.1.2.2))
    (hla : psa.length = n) (hlb : psb.length = m) (hn : n ≤ 100000) (hab : Ml.pl psa = Ml.pl psb) (hb : ∀ q ∈ psa, q.1.2.2.length ≤ 100000000) (hob : o.2.1.2.2.length ≤ 100000000) :
    Calls Try.prog 9 [.slice A n c, .slice B m d, .agg (ocell o).toArray].toArray w fun e w' => ∃ g : ((Option Addr × Nat) × List Ml.Pv) × ((Option Addr × Nat) × List Ml.Pv) × List Fact,
      e = .returned (.tuple #[.slice g.1.1.1 g.1.2.length g.1.1.2, .slice g.2.1.1.1 g.2.1.2.length g.2.1.1.2, .bool true]) ∧ St noB w w' [frzN g.2.2] ∧ Ml.pl g.1.2 = nxt (Ml.pl psa) o.1.1 o.1.2 o.2.1 ∧ Ml.pl g.2.1.2 = nxt (Ml.pl psa) o.1.1 o.1.2 o.2.1 ∧
      (∀ f ∈ Ml.pfs g.1.1.1 g.1.2, f ∈ g.2.2 ∨ f ∈ Ml.pfs A psa) ∧ (∀ f ∈ Ml.pfs g.2.1.1.1 g.2.1.2, f ∈ g.2.2 ∨ f ∈ Ml.pfs B psb ∨ f = Ml.bfact o.2) := by
  refine GC.calls Try.func9 rfl rfl (St.begin _) ?_
  subst hla
  subst hlb
  have hbb := lenb hab hb
  have hab' : psa.length = psb.length := by rw [← Ml.pl_len psa, hab, Ml.pl_len]
  refine GC.seq ?_
  refine GC.reg ?_
  refine GL.step (ot_box rfl rfl rfl fun b5 => ?_)
  refine GL.val (rv_assign rfl) rfl ?_
  refine GL.val (rv_assign rfl) rfl ?_
  refine GL.val (rv_assign rfl) rfl ?_
  refine GL.nil ?_
  refine GX.then ?_
  refine GC.seq ?_
  refine GC.reg ?_
  refine GL.val (rv_move rfl) rfl ?_
  refine GL.val (rv_move rfl) rfl ?_
  refine GL.val (rv_assign rfl) rfl ?_
  refine GL.val (rv_assign rfl) rfl ?_
  refine GL.nil ?_
  refine GX.then ?_
  refine GC.seq ?_
  refine GC.reg ?_
  refine GL.val (rv_assign rfl) rfl ?_
  refine GL.val (rv_assign rfl) rfl ?_
  refine GL.nil ?_
  refine GX.then ?_
  refine GC.seq ?_
  refine GC.reg ?_
  refine GL.val (rv_buildS pl_25 zb_25 rfl rfl (by first | ((simp only [bldL, repl, List.set_cons_zero, List.set_cons_succ, List.getElem?_cons_zero, List.getElem?_cons_succ, Option.getD_some, Value.cells]) <;> rfl) | rfl)) rfl ?_
  refine GL.val (rv_buildS pl_25 zb_25 rfl rfl (by first | ((simp only [bldL, repl, List.set_cons_zero, List.set_cons_succ, List.getElem?_cons_zero, List.getElem?_cons_succ, Option.getD_some, Value.cells]) <;> rfl) | rfl)) rfl ?_
  refine GL.step (ot_alloc (zs := [.int .i64 0, .int .i64 0, .slice none 0 0]) zb_25 rfl rfl fun b13 => ?_)
  refine GL.step (ot_alloc (zs := [.int .i64 0, .int .i64 0, .slice none 0 0]) zb_25 rfl rfl fun b14 => ?_)
  first | refine GL.step (ot_store (k := 0) rfl rfl rfl rfl sz_25 rfl rfl (by first | ((simp only [repl, List.set_cons_zero, List.set_cons_succ]) <;> rfl) | rfl) ?_) | refine GL.step (ot_store (k := 1) rfl rfl rfl rfl sz_25 rfl rfl (by first | ((simp only [repl, List.set_cons_zero, List.set_cons_succ]) <;> rfl) | rfl) ?_) | refine GL.step (ot_store (k := 2) rfl rfl rfl rfl sz_25 rfl rfl (by first | ((simp only [repl, List.set_cons_zero, List.set_cons_succ]) <;> rfl) | rfl) ?_)
  first | refine GL.step (ot_store (k := 0) rfl rfl rfl rfl sz_25 rfl rfl (by first | ((simp only [repl, List.set_cons_zero, List.set_cons_succ]) <;> rfl) | rfl) ?_) | refine GL.step (ot_store (k := 1) rfl rfl rfl rfl sz_25 rfl rfl (by first | ((simp only [repl, List.set_cons_zero, List.set_cons_succ]) <;> rfl) | rfl) ?_) | refine GL.step (ot_store (k := 2) rfl rfl rfl rfl sz_25 rfl rfl (by first | ((simp only [repl, List.set_cons_zero, List.set_cons_succ]) <;> rfl) | rfl) ?_)
  refine GL.nil ?_
  refine GX.then ?_
  refine GC.seq ?_
  refine GC.seq ?_
  refine GC.reg ?_
  refine GL.val (rv_field fo_27_0 rfl rfl) rfl ?_
  refine GL.val (rv_load ag_3 rfl (by first | exact Hd.cell (k := 0) rfl rfl | exact Hd.cell (k := 1) rfl rfl | exact Hd.cell (k := 2) rfl rfl | exact Hd.rowCell (k := 0) rfl (by assumption) | exact Hd.rowCell (k := 1) rfl (by assumption) | exact Hd.rowCell (k := 2) rfl (by assumption) | exact Hd.cell0 (by assumption) (by first | exact fun h => h | assumption))) rfl ?_
  refine GL.nil ?_
  refine GX.then ?_
  refine GC.block ?_
  refine GC.seq ?_
  refine GC.reg ?_
  refine GL.val (rv_eqI rfl rfl) rfl ?_
  refine GL.val (rv_assign rfl) rfl ?_
  refine GL.nil ?_
  refine GX.then ?_
  first | refine GC.condP rfl (fun c1 => ?_) (fun c1 => ?_) | refine GC.cond rfl (fun c1 => ?_) (fun c1 => ?_)
  · refine GC.seq ?_
    refine GC.reg ?_
    refine GL.val (rv_move rfl) rfl ?_
    refine GL.val (rv_field fo_27_2 rfl rfl) rfl ?_
    refine GL.val (rv_loadA ag_25 rfl (Hd.cells (k := 2) (us := Ml.pcell o.2) rfl rfl) (by exact sz_25)) rfl ?_
    refine GL.step (ot_call hb_12 rfl (callOk fun w hh => send_c A _ c psa w (fun f hf => hh.rd0n (hRa f hf)) rfl (by omega) hb o.2 (hh.rd0n ho) hob) rfl fun gx hx => ?_)
    obtain ⟨⟨Ax, cx⟩, xs⟩ := gx
    dsimp only at hx
    have hxl : xs.length ≤ 1000000 := by have h1 := send_len (Ml.pl psa) o.2.1; have h2 := Ml.pl_len psa; rw [← hx, Ml.pl_len] at h1; omega
    refine GL.val (rv_move rfl) rfl ?_
    refine GL.val (rv_extract rfl rfl) rfl ?_
    refine GL.val (rv_extract rfl rfl) rfl ?_
    refine GL.val (rv_assign rfl) rfl ?_
    refine GL.val (rv_assign rfl) rfl ?_
    refine GL.nil ?_
    refine GX.then ?_
    refine GC.reg ?_
    refine GL.val (rv_move rfl) rfl ?_
    refine GL.val (rv_field fo_27_2 rfl rfl) rfl ?_
    refine GL.val (rv_loadA ag_25 rfl (Hd.cells (k := 3) (us := Ml.pcell o.2) rfl rfl) (by exact sz_25)) rfl ?_
    refine GL.step (ot_call hb_16 rfl (callOk fun w hh => rsend_c B _ d psb w (fun f hf => hh.rd0n (hRb f hf)) rfl (by omega) o.2 (hh.rd0n ho) hob) rfl fun gy hy => ?_)
    obtain ⟨⟨Ay, cy⟩, ys⟩ := gy
    obtain ⟨hy1, hy2⟩ := hy
    dsimp only at hy1 hy2
    rw [← hab] at hy1
    rw [← hab]
    refine GL.val (rv_move rfl) rfl ?_
    refine GL.val (rv_extract rfl rfl) rfl ?_
    refine GL.val (rv_extract rfl rfl) rfl ?_
    refine GL.val (rv_assign rfl) rfl ?_
    refine GL.val (rv_assign rfl) rfl ?_
    refine GL.nil ?_
    refine GX.blk ?_
    refine GX.then ?_
    refine GC.seq ?_
    refine GC.seq ?_
    refine GC.reg ?_
    refine GL.val (rv_move rfl) rfl ?_
    refine GL.val (rv_move rfl) rfl ?_
    refine GL.val (rv_to (v' := .bool false) (rv_neI rfl rfl) (by simp)) rfl ?_
    refine GL.val (rv_move rfl) rfl ?_
    first | refine GL.skipG rfl rfl ?_ | refine GL.skipU rfl rfl ?_ | refine GL.valT rfl (rv_move rfl) rfl ?_ | refine GL.valG rfl (fun hb => rv_move (by first | exact evb rfl hb | rfl)) rfl ?_
    first | refine GL.skipG rfl rfl ?_ | refine GL.skipU rfl rfl ?_ | refine GL.valT rfl (rv_move rfl) rfl ?_ | refine GL.valG rfl (fun hb => rv_move (by first | exact evb rfl hb | rfl)) rfl ?_
    first | refine GL.skipG rfl rfl ?_ | refine GL.skipU rfl rfl ?_ | refine GL.stepG rfl (ot_call hb_19 rfl (callOk fun w hh => same_b Ax Ay _ _ cx cy xs ys w (hh.frzN (k := 1) rfl) (pfR (hh.frzN (k := 0) rfl _ (List.mem_singleton.2 rfl)) (fun r hr => hh.rd0n ((hy2 r hr).elim (fun h => bfR hRb r h) (fun h => h ▸ ho)))) rfl rfl hxl (hx.trans hy1.symm)) rfl fun _ _ => ?_)
    first | refine GL.skipG rfl rfl ?_ | refine GL.skipU rfl rfl ?_ | refine GL.valT rfl (rv_not rfl) rfl ?_ | refine GL.valG rfl (fun hb => rv_not (by first | exact evb rfl hb | rfl)) rfl ?_
    refine GL.val ((by first | exact rv_orF rfl rfl rfl | exact rv_orT rfl rfl rfl | exact rv_pickOr rfl rfl rfl)) rfl ?_
    refine GL.val (rv_move rfl) rfl ?_
    first | refine GL.skipG rfl rfl ?_ | refine GL.skipU rfl rfl ?_ | refine GL.valT rfl (rv_loadA ag_25 rfl (by first | exact Hd.cellsAll (k := 0) rfl | exact Hd.cellsAll (k := 1) rfl | exact Hd.cellsAll (k := 2) rfl | exact Hd.cellsAll (k := 3) rfl | exact Hd.cellsAll (k := 4) rfl | exact Hd.cells0 (by assumption) (by first | exact fun h => h | assumption)) (by exact sz_25)) rfl ?_ | refine GL.valG rfl (fun hb => rv_loadA ag_25 (by first | exact evb rfl hb | rfl) (by first | exact Hd.cellsAll (k := 0) (by first | exact evb rfl hb | rfl) | exact Hd.cellsAll (k := 1) (by first | exact evb rfl hb | rfl) | exact Hd.cellsAll (k := 2) (by first | exact evb rfl hb | rfl) | exact Hd.cellsAll (k := 3) (by first | exact evb rfl hb | rfl) | exact Hd.cellsAll (k := 4) (by first | exact evb rfl hb | rfl) | exact Hd.cells0 (by assumption) (by first | exact fun h => h | assumption)) (by exact sz_25)) rfl ?_
    first | refine GL.skipG rfl rfl ?_ | refine GL.skipU rfl rfl ?_ | refine GL.valT rfl (rv_loadA ag_25 rfl (by first | exact Hd.cellsAll (k := 0) rfl | exact Hd.cellsAll (k := 1) rfl | exact Hd.cellsAll (k := 2) rfl | exact Hd.cellsAll (k := 3) rfl | exact Hd.cellsAll (k := 4) rfl | exact Hd.cells0 (by assumption) (by first | exact fun h => h | assumption)) (by exact sz_25)) rfl ?_ | refine GL.valG rfl (fun hb => rv_loadA ag_25 (by first | exact evb rfl hb | rfl) (by first | exact Hd.cellsAll (k := 0) (by first | exact evb rfl hb | rfl) | exact Hd.cellsAll (k := 1) (by first | exact evb rfl hb | rfl) | exact Hd.cellsAll (k := 2) (by first | exact evb rfl hb | rfl) | exact Hd.cellsAll (k := 3) (by first | exact evb rfl hb | rfl) | exact Hd.cellsAll (k := 4) (by first | exact evb rfl hb | rfl) | exact Hd.cells0 (by assumption) (by first | exact fun h => h | assumption)) (by exact sz_25)) rfl ?_
    first | refine GL.skipG rfl rfl ?_ | refine GL.skipU rfl rfl ?_ | refine GL.stepG rfl (ot_call hb_14 rfl (callOk fun w hh => sameone_b (Ml.zero, (none, 0)) (Ml.zero, (none, 0)) w zR zR rfl) rfl fun _ _ => ?_)
    first | refine GL.skipG rfl rfl ?_ | refine GL.skipU rfl rfl ?_ | refine GL.valT rfl (rv_not rfl) rfl ?_ | refine GL.valG rfl (fun hb => rv_not (by first | exact evb rfl hb | rfl)) rfl ?_
    refine GL.val ((by first | exact rv_orF rfl rfl rfl | exact rv_orT rfl rfl rfl | exact rv_pickOr rfl rfl rfl)) rfl ?_
    refine GL.nil ?_
    refine GX.then ?_
    first | refine GC.condP rfl (fun c2 => ?_) (fun c2 => ?_) | refine GC.cond rfl (fun c2 => ?_) (fun c2 => ?_)
    · exact absurd c2 (by simp)
    · refine GC.skip ?_
      refine GX.then ?_
      refine GC.seq ?_
      refine GC.seq ?_
      refine GC.reg ?_
      refine GL.val (rv_move rfl) rfl ?_
      refine GL.val (rv_neI rfl rfl) rfl ?_
      refine GL.nil ?_
      refine GX.then ?_
      first | refine GC.condP rfl (fun c3 => ?_) (fun c3 => ?_) | refine GC.cond rfl (fun c3 => ?_) (fun c3 => ?_)
      · refine GC.seq ?_
        refine GC.reg ?_
        refine GL.val (rv_move rfl) rfl ?_
        refine GL.val (rv_move rfl) rfl ?_
        refine GL.val (rv_assign rfl) rfl ?_
        refine GL.val (rv_assign rfl) rfl ?_
        refine GL.val (rv_assign rfl) rfl ?_
        refine GL.nil ?_
        refine GX.then ?_
        refine GC.ret ?_
        refine GX.then_ret ?_
        refine GX.ret3 rfl (RR.tmp rfl) (RR.tmp rfl) (RR.tmp rfl) ?_
        have e : res (Ml.pl psa) o.1.1 o.1.2 o.2.1 = ((Ml.send (Ml.pl psa) o.2.1).1, Ml.zero, (Ml.send (Ml.pl psa) o.2.1).2) := by unfold res; simp [c1]
        have e' : nxt (Ml.pl psa) o.1.1 o.1.2 o.2.1 = Ml.pl psa := by unfold nxt; rw [e]; exact if_pos c3
        rw [e']
        exact fun w h => ⟨(((A, c), psa), ((B, d), psb), []), rfl, (St.frzN0 h).take 1, rfl, hab.symm, fun f hf => .inr hf, fun f hf => .inr (.inl hf)⟩
      · refine GC.skip ?_
        refine GX.then ?_
        refine GC.seq ?_
        refine GC.reg ?_
        refine GL.val (rv_move rfl) rfl ?_
        refine GL.val (rv_move rfl) rfl ?_
        refine GL.val (rv_assign rfl) rfl ?_
        refine GL.val (rv_assign rfl) rfl ?_
        refine GL.val (rv_assign rfl) rfl ?_
        refine GL.nil ?_
        refine GX.then ?_
        refine GC.ret ?_
        refine GX.ret3 rfl (RR.tmp rfl) (RR.tmp rfl) (RR.tmp rfl) ?_
        have e : res (Ml.pl psa) o.1.1 o.1.2 o.2.1 = ((Ml.send (Ml.pl psa) o.2.1).1, Ml.zero, (Ml.send (Ml.pl psa) o.2.1).2) := by unfold res; simp [c1]
        have e' : nxt (Ml.pl psa) o.1.1 o.1.2 o.2.1 = Ml.pl xs := by unfold nxt; rw [e]; exact (if_neg c3).trans hx.symm
        rw [e']
        exact fun w h => ⟨(((Ax, cx), xs), ((Ay, cy), ys), [(Ay, Ml.pcs ys)] ++ Ml.pfs Ax xs), rfl, (St.frzNAdd h).take 1, rfl, hy1.trans hx.symm, fun f hf => .inl (List.mem_append_right _ hf), fun f hf => by
          rcases List.mem_cons.1 hf with rfl | hf
          · exact .inl (List.mem_append_left _ (List.mem_singleton.2 rfl))
          · obtain ⟨r, hr, rfl⟩ := List.mem_map.1 hf
            exact .inr ((hy2 r hr).elim (fun h => .inl (List.mem_cons_of_mem _ (List.mem_map_of_mem h))) (fun h => .inr (h ▸ rfl)))⟩
  · refine GC.seq ?_
    refine GC.reg ?_
    refine GL.val (rv_eqI rfl rfl) rfl ?_
    refine GL.val (rv_assign rfl) rfl ?_
    refine GL.nil ?_
    refine GX.then ?_
    first | refine GC.condP rfl (fun c4 => ?_) (fun c4 => ?_) | refine GC.cond rfl (fun c4 => ?_) (fun c4 => ?_)
    · refine GC.seq ?_
      refine GC.reg ?_
      refine GL.val (rv_move rfl) rfl ?_
      refine GL.val (rv_field fo_27_1 rfl rfl) rfl ?_
      refine GL.val (rv_load ag_3 rfl (by first | exact Hd.cell (k := 0) rfl rfl | exact Hd.cell (k := 1) rfl rfl | exact Hd.cell (k := 2) rfl rfl | exact Hd.rowCell (k := 0) rfl (by assumption) | exact Hd.rowCell (k := 1) rfl (by assumption) | exact Hd.rowCell (k := 2) rfl (by assumption) | exact Hd.cell0 (by assumption) (by first | exact fun h => h | assumption))) rfl ?_
      refine GL.step (ot_call hb_13 rfl (callOk fun w hh => take_c A _ c psa w (fun f hf => hh.rd0n (hRa f hf)) rfl (by omega) hb o.1.2) rfl fun gx hx => ?_)
      obtain ⟨⟨Ax, cx⟩, xs, px⟩ := gx
      obtain ⟨hx, hpx⟩ := hx
      dsimp only at hx hpx
      have hxl : xs.length ≤ 1000000 := by have h1 := take_len (Ml.pl psa) o.1.2; have h2 := Ml.pl_len psa; rw [← hx, Ml.pl_len] at h1; omega
      refine GL.val (rv_move rfl) rfl ?_
      refine GL.val (rv_extract rfl rfl) rfl ?_
      refine GL.val (rv_extract rfl rfl) rfl ?_
      refine GL.val (rv_extract rfl rfl) rfl ?_
      refine GL.val (rv_assign rfl) rfl ?_
      first | refine GL.step (ot_store (k := 0) rfl rfl rfl rfl sz_25 rfl rfl (by first | ((simp only [repl, List.set_cons_zero, List.set_cons_succ]) <;> rfl) | rfl) ?_) | refine GL.step (ot_store (k := 1) rfl rfl rfl rfl sz_25 rfl rfl (by first | ((simp only [repl, List.set_cons_zero, List.set_cons_succ]) <;> rfl) | rfl) ?_) | refine GL.step (ot_store (k := 2) rfl rfl rfl rfl sz_25 rfl rfl (by first | ((simp only [repl, List.set_cons_zero, List.set_cons_succ]) <;> rfl) | rfl) ?_) | refine GL.step (ot_store (k := 3) rfl rfl rfl rfl sz_25 rfl rfl (by first | ((simp only [repl, List.set_cons_zero, List.set_cons_succ]) <;> rfl) | rfl) ?_)
      refine GL.val (rv_assign rfl) rfl ?_
      refine GL.nil ?_
      refine GX.then ?_
      refine GC.reg ?_
      refine GL.val (rv_move rfl) rfl ?_
      refine GL.val (rv_field fo_27_1 rfl rfl) rfl ?_
      refine GL.val (rv_load ag_3 rfl (by first | exact Hd.cell (k := 0) rfl rfl | exact Hd.cell (k := 1) rfl rfl | exact Hd.cell (k := 2) rfl rfl | exact Hd.cell (k := 3) rfl rfl | exact Hd.rowCell (k := 0) rfl (by assumption) | exact Hd.rowCell (k := 1) rfl (by assumption) | exact Hd.rowCell (k := 2) rfl (by assumption) | exact Hd.rowCell (k := 3) rfl (by assumption) | exact Hd.cell0 (by assumption) (by first | exact fun h => h | assumption))) rfl ?_
      refine GL.step (ot_call hb_17 rfl (callOk fun w hh => rtake_c B _ d psb w (fun f hf => hh.rd0n (hRb f hf)) rfl (by omega) o.1.2) rfl fun gy hy => ?_)
      obtain ⟨⟨Ay, cy⟩, ys, py⟩ := gy
      obtain ⟨hy1, hpy, hy2, hy3, _⟩ := hy
      dsimp only at hy1 hpy hy2 hy3
      rw [← hab] at hy1 hpy
      rw [← hab]
      refine GL.val (rv_move rfl) rfl ?_
      refine GL.val (rv_extract rfl rfl) rfl ?_
      refine GL.val (rv_extract rfl rfl) rfl ?_
      refine GL.val (rv_extract rfl rfl) rfl ?_
      refine GL.val (rv_assign rfl) rfl ?_
      first | refine GL.step (ot_store (k := 0) rfl rfl rfl rfl sz_25 rfl rfl (by first | ((simp only [repl, List.set_cons_zero, List.set_cons_succ]) <;> rfl) | rfl) ?_) | refine GL.step (ot_store (k := 1) rfl rfl rfl rfl sz_25 rfl rfl (by first | ((simp only [repl, List.set_cons_zero, List.set_cons_succ]) <;> rfl) | rfl) ?_) | refine GL.step (ot_store (k := 2) rfl rfl rfl rfl sz_25 rfl rfl (by first | ((simp only [repl, List.set_cons_zero, List.set_cons_succ]) <;> rfl) | rfl) ?_) | refine GL.step (ot_store (k := 3) rfl rfl rfl rfl sz_25 rfl rfl (by first | ((simp only [repl, List.set_cons_zero, List.set_cons_succ]) <;> rfl) | rfl) ?_) | refine GL.step (ot_store (k := 4) rfl rfl rfl rfl sz_25 rfl rfl (by first | ((simp only [repl, List.set_cons_zero, List.set_cons_succ]) <;> rfl) | rfl) ?_)
      refine GL.val (rv_assign rfl) rfl ?_
      refine GL.nil ?_
      refine GX.blk ?_
      refine GX.then ?_
      refine GC.seq ?_
      refine GC.seq ?_
      refine GC.reg ?_
      refine GL.val (rv_move rfl) rfl ?_
      refine GL.val (rv_move rfl) rfl ?_
      refine GL.val (rv_to (v' := .bool false) (rv_neI rfl rfl) (by simp)) rfl ?_
      refine GL.val (rv_move rfl) rfl ?_
      first | refine GL.skipG rfl rfl ?_ | refine GL.skipU rfl rfl ?_ | refine GL.valT rfl (rv_move rfl) rfl ?_ | refine GL.valG rfl (fun hb => rv_move (by first | exact evb rfl hb | rfl)) rfl ?_
      first | refine GL.skipG rfl rfl ?_ | refine GL.skipU rfl rfl ?_ | refine GL.valT rfl (rv_move rfl) rfl ?_ | refine GL.valG rfl (fun hb => rv_move (by first | exact evb rfl hb | rfl)) rfl ?_
      first | refine GL.skipG rfl rfl ?_ | refine GL.skipU rfl rfl ?_ | refine GL.stepG rfl (ot_call hb_19 rfl (callOk fun w hh => same_b Ax Ay _ _ cx cy xs ys w (fun f hf => hh.frzN (k := 1) rfl f (List.mem_append_left _ hf)) (pfR (hh.frzN (k := 0) rfl _ (List.mem_singleton.2 rfl)) (fun r hr => hh.rd0n (bfR hRb r (hy2 r hr)))) rfl rfl hxl (hx.trans hy1.symm)) rfl fun _ _ => ?_)
      first | refine GL.skipG rfl rfl ?_ | refine GL.skipU rfl rfl ?_ | refine GL.valT rfl (rv_not rfl) rfl ?_ | refine GL.valG rfl (fun hb => rv_not (by first | exact evb rfl hb | rfl)) rfl ?_
      refine GL.val ((by first | exact rv_orF rfl rfl rfl | exact rv_orT rfl rfl rfl | exact rv_pickOr rfl rfl rfl)) rfl ?_
      refine GL.val (rv_move rfl) rfl ?_
      first | refine GL.skipG rfl rfl ?_ | refine GL.skipU rfl rfl ?_ | refine GL.valT rfl (rv_loadA ag_25 rfl (by first | exact Hd.cellsAll (k := 0) rfl | exact Hd.cellsAll (k := 1) rfl | exact Hd.cellsAll (k := 2) rfl | exact Hd.cellsAll (k := 3) rfl | exact Hd.cellsAll (k := 4) rfl | exact Hd.cells0 (by assumption) (by first | exact fun h => h | assumption)) (by exact sz_25)) rfl ?_ | refine GL.valG rfl (fun hb => rv_loadA ag_25 (by first | exact evb rfl hb | rfl) (by first | exact Hd.cellsAll (k := 0) (by first | exact evb rfl hb | rfl) | exact Hd.cellsAll (k := 1) (by first | exact evb rfl hb | rfl) | exact Hd.cellsAll (k := 2) (by first | exact evb rfl hb | rfl) | exact Hd.cellsAll (k := 3) (by first | exact evb rfl hb | rfl) | exact Hd.cellsAll (k := 4) (by first | exact evb rfl hb | rfl) | exact Hd.cells0 (by assumption) (by first | exact fun h => h | assumption)) (by exact sz_25)) rfl ?_
      first | refine GL.skipG rfl rfl ?_ | refine GL.skipU rfl rfl ?_ | refine GL.valT rfl (rv_loadA ag_25 rfl (by first | exact Hd.cellsAll (k := 0) rfl | exact Hd.cellsAll (k := 1) rfl | exact Hd.cellsAll (k := 2) rfl | exact Hd.cellsAll (k := 3) rfl | exact Hd.cellsAll (k := 4) rfl | exact Hd.cells0 (by assumption) (by first | exact fun h => h | assumption)) (by exact sz_25)) rfl ?_ | refine GL.valG rfl (fun hb => rv_loadA ag_25 (by first | exact evb rfl hb | rfl) (by first | exact Hd.cellsAll (k := 0) (by first | exact evb rfl hb | rfl) | exact Hd.cellsAll (k := 1) (by first | exact evb rfl hb | rfl) | exact Hd.cellsAll (k := 2) (by first | exact evb rfl hb | rfl) | exact Hd.cellsAll (k := 3) (by first | exact evb rfl hb | rfl) | exact Hd.cellsAll (k := 4) (by first | exact evb rfl hb | rfl) | exact Hd.cells0 (by assumption) (by first | exact fun h => h | assumption)) (by exact sz_25)) rfl ?_
      first | refine GL.skipG rfl rfl ?_ | refine GL.skipU rfl rfl ?_ | refine GL.stepG rfl (ot_call hb_14 rfl (callOk fun w hh => sameone_b px py w (hh.frzN (k := 1) rfl (Ml.bfact px) (List.mem_append_right _ (List.mem_singleton.2 rfl))) (hh.rd0n (hy3.elim (fun h => bfR hRb py h) (fun h => h ▸ zR))) (hpx.trans hpy.symm)) rfl fun _ _ => ?_)
      first | refine GL.skipG rfl rfl ?_ | refine GL.skipU rfl rfl ?_ | refine GL.valT rfl (rv_not rfl) rfl ?_ | refine GL.valG rfl (fun hb => rv_not (by first | exact evb rfl hb | rfl)) rfl ?_
      refine GL.val ((by first | exact rv_orF rfl rfl rfl | exact rv_orT rfl rfl rfl | exact rv_pickOr rfl rfl rfl)) rfl ?_
      refine GL.nil ?_
      refine GX.then ?_
      first | refine GC.condP rfl (fun c5 => ?_) (fun c5 => ?_) | refine GC.cond rfl (fun c5 => ?_) (fun c5 => ?_)
      · exact absurd c5 (by simp)
      · refine GC.skip ?_
        refine GX.then ?_
        refine GC.seq ?_
        refine GC.seq ?_
        refine GC.reg ?_
        refine GL.val (rv_move rfl) rfl ?_
        refine GL.val (rv_neI rfl rfl) rfl ?_
        refine GL.nil ?_
        refine GX.then ?_
        first | refine GC.condP rfl (fun c6 => ?_) (fun c6 => ?_) | refine GC.cond rfl (fun c6 => ?_) (fun c6 => ?_)
        · refine GC.seq ?_
          refine GC.reg ?_
          refine GL.val (rv_move rfl) rfl ?_
          refine GL.val (rv_move rfl) rfl ?_
          refine GL.val (rv_assign rfl) rfl ?_
          refine GL.val (rv_assign rfl) rfl ?_
          refine GL.val (rv_assign rfl) rfl ?_
          refine GL.nil ?_
          refine GX.then ?_
          refine GC.ret ?_
          refine GX.then_ret ?_
          refine GX.ret3 rfl (RR.tmp rfl) (RR.tmp rfl) (RR.tmp rfl) ?_
          have e : res (Ml.pl psa) o.1.1 o.1.2 o.2.1 = Ml.take (Ml.pl psa) o.1.2 := by unfold res; simp [c4]
          have e' : nxt (Ml.pl psa) o.1.1 o.1.2 o.2.1 = Ml.pl psa := by unfold nxt; rw [e]; exact if_pos c6
          rw [e']
          exact fun w h => ⟨(((A, c), psa), ((B, d), psb), []), rfl, (St.frzN0 h).take 1, rfl, hab.symm, fun f hf => .inr hf, fun f hf => .inr (.inl hf)⟩
        · refine GC.skip ?_
          refine GX.then ?_
          refine GC.seq ?_
          refine GC.reg ?_
          refine GL.val (rv_move rfl) rfl ?_
          refine GL.val (rv_move rfl) rfl ?_
          refine GL.val (rv_assign rfl) rfl ?_
          refine GL.val (rv_assign rfl) rfl ?_
          refine GL.val (rv_assign rfl) rfl ?_
          refine GL.nil ?_
          refine GX.then ?_
          refine GC.ret ?_
          refine GX.ret3 rfl (RR.tmp rfl) (RR.tmp rfl) (RR.tmp rfl) ?_
          have e : res (Ml.pl psa) o.1.1 o.1.2 o.2.1 = Ml.take (Ml.pl psa) o.1.2 := by unfold res; simp [c4]
          have e' : nxt (Ml.pl psa) o.1.1 o.1.2 o.2.1 = Ml.pl xs := by unfold nxt; rw [e]; exact (if_neg c6).trans hx.symm
          rw [e']
          exact fun w h => ⟨(((Ax, cx), xs), ((Ay, cy), ys), [(Ay, Ml.pcs ys)] ++ (Ml.pfs Ax xs ++ [Ml.bfact px])), rfl, (St.frzNAdd h).take 1, rfl, hy1.trans hx.symm, fun f hf => .inl (List.mem_append_right _ (List.mem_append_left _ hf)), fun f hf => by
            rcases List.mem_cons.1 hf with rfl | hf
            · exact .inl (List.mem_append_left _ (List.mem_singleton.2 rfl))
            · obtain ⟨r, hr, rfl⟩ := List.mem_map.1 hf
              exact .inr (.inl (List.mem_cons_of_mem _ (List.mem_map_of_mem (hy2 r hr))))⟩
    · refine GC.seq ?_
      refine GC.reg ?_
      refine GL.val (rv_eqI rfl rfl) rfl ?_
      refine GL.val (rv_assign rfl) rfl ?_
      refine GL.nil ?_
      refine GX.then ?_
      first | refine GC.condP rfl (fun c7 => ?_) (fun c7 => ?_) | refine GC.cond rfl (fun c7 => ?_) (fun c7 => ?_)
      · refine GC.seq ?_
        refine GC.reg ?_
        refine GL.val (rv_move rfl) rfl ?_
        refine GL.val (rv_field fo_27_1 rfl rfl) rfl ?_
        refine GL.val (rv_load ag_3 rfl (by first | exact Hd.cell (k := 0) rfl rfl | exact Hd.cell (k := 1) rfl rfl | exact Hd.cell (k := 2) rfl rfl | exact Hd.rowCell (k := 0) rfl (by assumption) | exact Hd.rowCell (k := 1) rfl (by assumption) | exact Hd.rowCell (k := 2) rfl (by assumption) | exact Hd.cell0 (by assumption) (by first | exact fun h => h | assumption))) rfl ?_
        refine GL.step (ot_call hb_15 rfl (callOk fun w hh => double_c A _ c psa w (fun f hf => hh.rd0n (hRa f hf)) rfl (by omega) hb o.1.2) rfl fun gx hx => ?_)
        obtain ⟨⟨Ax, cx⟩, xs⟩ := gx
        dsimp only at hx
        have hxl : xs.length ≤ 1000000 := by have h1 := double_len (Ml.pl psa) o.1.2; have h2 := Ml.pl_len psa; rw [← hx, Ml.pl_len] at h1; omega
        refine GL.val (rv_move rfl) rfl ?_
        refine GL.val (rv_extract rfl rfl) rfl ?_
        refine GL.val (rv_extract rfl rfl) rfl ?_
        refine GL.val (rv_assign rfl) rfl ?_
        refine GL.val (rv_assign rfl) rfl ?_
        refine GL.nil ?_
        refine GX.then ?_
        refine GC.reg ?_
        refine GL.val (rv_move rfl) rfl ?_
        refine GL.val (rv_field fo_27_1 rfl rfl) rfl ?_
        refine GL.val (rv_load ag_3 rfl (by first | exact Hd.cell (k := 0) rfl rfl | exact Hd.cell (k := 1) rfl rfl | exact Hd.cell (k := 2) rfl rfl | exact Hd.cell (k := 3) rfl rfl | exact Hd.rowCell (k := 0) rfl (by assumption) | exact Hd.rowCell (k := 1) rfl (by assumption) | exact Hd.rowCell (k := 2) rfl (by assumption) | exact Hd.rowCell (k := 3) rfl (by assumption) | exact Hd.cell0 (by assumption) (by first | exact fun h => h | assumption))) rfl ?_
        refine GL.step (ot_call hb_18 rfl (callOk fun w hh => rdouble_c B _ d psb w (fun f hf => hh.rd0n (hRb f hf)) rfl (by omega) hbb o.1.2) rfl fun gy hy => ?_)
        obtain ⟨⟨Ay, cy⟩, ys⟩ := gy
        obtain ⟨hy1, hy2⟩ := hy
        dsimp only at hy1 hy2
        rw [← hab] at hy1
        rw [← hab]
        refine GL.val (rv_move rfl) rfl ?_
        refine GL.val (rv_extract rfl rfl) rfl ?_
        refine GL.val (rv_extract rfl rfl) rfl ?_
        refine GL.val (rv_assign rfl) rfl ?_
        refine GL.val (rv_assign rfl) rfl ?_
        refine GL.nil ?_
        refine GX.blk ?_
        refine GX.then ?_
        refine GC.seq ?_
        refine GC.seq ?_
        refine GC.reg ?_
        refine GL.val (rv_move rfl) rfl ?_
        refine GL.val (rv_move rfl) rfl ?_
        refine GL.val (rv_to (v' := .bool false) (rv_neI rfl rfl) (by simp)) rfl ?_
        refine GL.val (rv_move rfl) rfl ?_
        first | refine GL.skipG rfl rfl ?_ | refine GL.skipU rfl rfl ?_ | refine GL.valT rfl (rv_move rfl) rfl ?_ | refine GL.valG rfl (fun hb => rv_move (by first | exact evb rfl hb | rfl)) rfl ?_
        first | refine GL.skipG rfl rfl ?_ | refine GL.skipU rfl rfl ?_ | refine GL.valT rfl (rv_move rfl) rfl ?_ | refine GL.valG rfl (fun hb => rv_move (by first | exact evb rfl hb | rfl)) rfl ?_
        first | refine GL.skipG rfl rfl ?_ | refine GL.skipU rfl rfl ?_ | refine GL.stepG rfl (ot_call hb_19 rfl (callOk fun w hh => same_b Ax Ay _ _ cx cy xs ys w (hh.frzN (k := 1) rfl) (pfR (hh.frzN (k := 0) rfl _ (List.mem_singleton.2 rfl)) (fun r hr => hh.rd0n (bfR hRb r (hy2 r hr)))) rfl rfl hxl (hx.trans hy1.symm)) rfl fun _ _ => ?_)
        first | refine GL.skipG rfl rfl ?_ | refine GL.skipU rfl rfl ?_ | refine GL.valT rfl (rv_not rfl) rfl ?_ | refine GL.valG rfl (fun hb => rv_not (by first | exact evb rfl hb | rfl)) rfl ?_
        refine GL.val ((by first | exact rv_orF rfl rfl rfl | exact rv_orT rfl rfl rfl | exact rv_pickOr rfl rfl rfl)) rfl ?_
        refine GL.val (rv_move rfl) rfl ?_
        first | refine GL.skipG rfl rfl ?_ | refine GL.skipU rfl rfl ?_ | refine GL.valT rfl (rv_loadA ag_25 rfl (by first | exact Hd.cellsAll (k := 0) rfl | exact Hd.cellsAll (k := 1) rfl | exact Hd.cellsAll (k := 2) rfl | exact Hd.cellsAll (k := 3) rfl | exact Hd.cellsAll (k := 4) rfl | exact Hd.cells0 (by assumption) (by first | exact fun h => h | assumption)) (by exact sz_25)) rfl ?_ | refine GL.valG rfl (fun hb => rv_loadA ag_25 (by first | exact evb rfl hb | rfl) (by first | exact Hd.cellsAll (k := 0) (by first | exact evb rfl hb | rfl) | exact Hd.cellsAll (k := 1) (by first | exact evb rfl hb | rfl) | exact Hd.cellsAll (k := 2) (by first | exact evb rfl hb | rfl) | exact Hd.cellsAll (k := 3) (by first | exact evb rfl hb | rfl) | exact Hd.cellsAll (k := 4) (by first | exact evb rfl hb | rfl) | exact Hd.cells0 (by assumption) (by first | exact fun h => h | assumption)) (by exact sz_25)) rfl ?_
        first | refine GL.skipG rfl rfl ?_ | refine GL.skipU rfl rfl ?_ | refine GL.valT rfl (rv_loadA ag_25 rfl (by first | exact Hd.cellsAll (k := 0) rfl | exact Hd.cellsAll (k := 1) rfl | exact Hd.cellsAll (k := 2) rfl | exact Hd.cellsAll (k := 3) rfl | exact Hd.cellsAll (k := 4) rfl | exact Hd.cells0 (by assumption) (by first | exact fun h => h | assumption)) (by exact sz_25)) rfl ?_ | refine GL.valG rfl (fun hb => rv_loadA ag_25 (by first | exact evb rfl hb | rfl) (by first | exact Hd.cellsAll (k := 0) (by first | exact evb rfl hb | rfl) | exact Hd.cellsAll (k := 1) (by first | exact evb rfl hb | rfl) | exact Hd.cellsAll (k := 2) (by first | exact evb rfl hb | rfl) | exact Hd.cellsAll (k := 3) (by first | exact evb rfl hb | rfl) | exact Hd.cellsAll (k := 4) (by first | exact evb rfl hb | rfl) | exact Hd.cells0 (by assumption) (by first | exact fun h => h | assumption)) (by exact sz_25)) rfl ?_
        first | refine GL.skipG rfl rfl ?_ | refine GL.skipU rfl rfl ?_ | refine GL.stepG rfl (ot_call hb_14 rfl (callOk fun w hh => sameone_b (Ml.zero, (none, 0)) (Ml.zero, (none, 0)) w zR zR rfl) rfl fun _ _ => ?_)
        first | refine GL.skipG rfl rfl ?_ | refine GL.skipU rfl rfl ?_ | refine GL.valT rfl (rv_not rfl) rfl ?_ | refine GL.valG rfl (fun hb => rv_not (by first | exact evb rfl hb | rfl)) rfl ?_
        refine GL.val ((by first | exact rv_orF rfl rfl rfl | exact rv_orT rfl rfl rfl | exact rv_pickOr rfl rfl rfl)) rfl ?_
        refine GL.nil ?_
        refine GX.then ?_
        first | refine GC.condP rfl (fun c8 => ?_) (fun c8 => ?_) | refine GC.cond rfl (fun c8 => ?_) (fun c8 => ?_)
        · exact absurd c8 (by simp)
        · refine GC.skip ?_
          refine GX.then ?_
          refine GC.seq ?_
          refine GC.seq ?_
          refine GC.reg ?_
          refine GL.val (rv_move rfl) rfl ?_
          refine GL.val (rv_neI rfl rfl) rfl ?_
          refine GL.nil ?_
          refine GX.then ?_
          first | refine GC.condP rfl (fun c9 => ?_) (fun c9 => ?_) | refine GC.cond rfl (fun c9 => ?_) (fun c9 => ?_)
          · refine GC.seq ?_
            refine GC.reg ?_
            refine GL.val (rv_move rfl) rfl ?_
            refine GL.val (rv_move rfl) rfl ?_
            refine GL.val (rv_assign rfl) rfl ?_
            refine GL.val (rv_assign rfl) rfl ?_
            refine GL.val (rv_assign rfl) rfl ?_
            refine GL.nil ?_
            refine GX.then ?_
            refine GC.ret ?_
            refine GX.then_ret ?_
            refine GX.ret3 rfl (RR.tmp rfl) (RR.tmp rfl) (RR.tmp rfl) ?_
            have e : res (Ml.pl psa) o.1.1 o.1.2 o.2.1 = ((Ml.double (Ml.pl psa) o.1.2).1, Ml.zero, (Ml.double (Ml.pl psa) o.1.2).2) := by unfold res; simp [c7]
            have e' : nxt (Ml.pl psa) o.1.1 o.1.2 o.2.1 = Ml.pl psa := by unfold nxt; rw [e]; exact if_pos c9
            rw [e']
            exact fun w h => ⟨(((A, c), psa), ((B, d), psb), []), rfl, (St.frzN0 h).take 1, rfl, hab.symm, fun f hf => .inr hf, fun f hf => .inr (.inl hf)⟩
          · refine GC.skip ?_
            refine GX.then ?_
            refine GC.seq ?_
            refine GC.reg ?_
            refine GL.val (rv_move rfl) rfl ?_
            refine GL.val (rv_move rfl) rfl ?_
            refine GL.val (rv_assign rfl) rfl ?_
            refine GL.val (rv_assign rfl) rfl ?_
            refine GL.val (rv_assign rfl) rfl ?_
            refine GL.nil ?_
            refine GX.then ?_
            refine GC.ret ?_
            refine GX.ret3 rfl (RR.tmp rfl) (RR.tmp rfl) (RR.tmp rfl) ?_
            have e : res (Ml.pl psa) o.1.1 o.1.2 o.2.1 = ((Ml.double (Ml.pl psa) o.1.2).1, Ml.zero, (Ml.double (Ml.pl psa) o.1.2).2) := by unfold res; simp [c7]
            have e' : nxt (Ml.pl psa) o.1.1 o.1.2 o.2.1 = Ml.pl xs := by unfold nxt; rw [e]; exact (if_neg c9).trans hx.symm
            rw [e']
            exact fun w h => ⟨(((Ax, cx), xs), ((Ay, cy), ys), [(Ay, Ml.pcs ys)] ++ Ml.pfs Ax xs), rfl, (St.frzNAdd h).take 1, rfl, hy1.trans hx.symm, fun f hf => .inl (List.mem_append_right _ hf), fun f hf => by
              rcases List.mem_cons.1 hf with rfl | hf
              · exact .inl (List.mem_append_left _ (List.mem_singleton.2 rfl))
              · obtain ⟨r, hr, rfl⟩ := List.mem_map.1 hf
                exact .inr (.inl (List.mem_cons_of_mem _ (List.mem_map_of_mem (hy2 r hr))))⟩
      · refine GC.skip ?_
        refine GX.blk ?_
        refine GX.then ?_
        refine GC.seq ?_
        refine GC.seq ?_
        refine GC.reg ?_
        refine GL.val (rv_move rfl) rfl ?_
        refine GL.val (rv_move rfl) rfl ?_
        refine GL.val (rv_to (v' := .bool false) (rv_neI rfl rfl) (by simp)) rfl ?_
        refine GL.val (rv_move rfl) rfl ?_
        first | refine GL.skipG rfl rfl ?_ | refine GL.skipU rfl rfl ?_ | refine GL.valT rfl (rv_move rfl) rfl ?_ | refine GL.valG rfl (fun hb => rv_move (by first | exact evb rfl hb | rfl)) rfl ?_
        first | refine GL.skipG rfl rfl ?_ | refine GL.skipU rfl rfl ?_ | refine GL.valT rfl (rv_move rfl) rfl ?_ | refine GL.valG rfl (fun hb => rv_move (by first | exact evb rfl hb | rfl)) rfl ?_
        first | refine GL.skipG rfl rfl ?_ | refine GL.skipU rfl rfl ?_ | refine GL.stepG rfl (ot_call hb_19 rfl (callOk fun w hh => same_b A B _ _ c d psa psb w (fun f hf => hh.rd0n (hRa f hf)) (fun f hf => hh.rd0n (hRb f hf)) rfl rfl (by omega) hab) rfl fun _ _ => ?_)
        first | refine GL.skipG rfl rfl ?_ | refine GL.skipU rfl rfl ?_ | refine GL.valT rfl (rv_not rfl) rfl ?_ | refine GL.valG rfl (fun hb => rv_not (by first | exact evb rfl hb | rfl)) rfl ?_
        refine GL.val ((by first | exact rv_orF rfl rfl rfl | exact rv_orT rfl rfl rfl | exact rv_pickOr rfl rfl rfl)) rfl ?_
        refine GL.val (rv_move rfl) rfl ?_
        first | refine GL.skipG rfl rfl ?_ | refine GL.skipU rfl rfl ?_ | refine GL.valT rfl (rv_loadA ag_25 rfl (by first | exact Hd.cellsAll (k := 0) rfl | exact Hd.cellsAll (k := 1) rfl | exact Hd.cellsAll (k := 2) rfl | exact Hd.cells0 (by assumption) (by first | exact fun h => h | assumption)) (by exact sz_25)) rfl ?_ | refine GL.valG rfl (fun hb => rv_loadA ag_25 (by first | exact evb rfl hb | rfl) (by first | exact Hd.cellsAll (k := 0) (by first | exact evb rfl hb | rfl) | exact Hd.cellsAll (k := 1) (by first | exact evb rfl hb | rfl) | exact Hd.cellsAll (k := 2) (by first | exact evb rfl hb | rfl) | exact Hd.cells0 (by assumption) (by first | exact fun h => h | assumption)) (by exact sz_25)) rfl ?_
        first | refine GL.skipG rfl rfl ?_ | refine GL.skipU rfl rfl ?_ | refine GL.valT rfl (rv_loadA ag_25 rfl (by first | exact Hd.cellsAll (k := 0) rfl | exact Hd.cellsAll (k := 1) rfl | exact Hd.cellsAll (k := 2) rfl | exact Hd.cells0 (by assumption) (by first | exact fun h => h | assumption)) (by exact sz_25)) rfl ?_ | refine GL.valG rfl (fun hb => rv_loadA ag_25 (by first | exact evb rfl hb | rfl) (by first | exact Hd.cellsAll (k := 0) (by first | exact evb rfl hb | rfl) | exact Hd.cellsAll (k := 1) (by first | exact evb rfl hb | rfl) | exact Hd.cellsAll (k := 2) (by first | exact evb rfl hb | rfl) | exact Hd.cells0 (by assumption) (by first | exact fun h => h | assumption)) (by exact sz_25)) rfl ?_
        first | refine GL.skipG rfl rfl ?_ | refine GL.skipU rfl rfl ?_ | refine GL.stepG rfl (ot_call hb_14 rfl (callOk fun w hh => sameone_b (Ml.zero, (none, 0)) (Ml.zero, (none, 0)) w zR zR rfl) rfl fun _ _ => ?_)
        first | refine GL.skipG rfl rfl ?_ | refine GL.skipU rfl rfl ?_ | refine GL.valT rfl (rv_not rfl) rfl ?_ | refine GL.valG rfl (fun hb => rv_not (by first | exact evb rfl hb | rfl)) rfl ?_
        refine GL.val ((by first | exact rv_orF rfl rfl rfl | exact rv_orT rfl rfl rfl | exact rv_pickOr rfl rfl rfl)) rfl ?_
        refine GL.nil ?_
        refine GX.then ?_
        first | refine GC.condP rfl (fun c10 => ?_) (fun c10 => ?_) | refine GC.cond rfl (fun c10 => ?_) (fun c10 => ?_)
        · exact absurd c10 (by simp)
        · refine GC.skip ?_
          refine GX.then ?_
          refine GC.seq ?_
          refine GC.seq ?_
          refine GC.reg ?_
          refine GL.val (rv_move rfl) rfl ?_
          refine GL.val (rv_neI rfl rfl) rfl ?_
          refine GL.nil ?_
          refine GX.then ?_
          first | refine GC.condP rfl (fun c11 => ?_) (fun c11 => ?_) | refine GC.cond rfl (fun c11 => ?_) (fun c11 => ?_)
          · exact absurd rfl c11
          · refine GC.skip ?_
            refine GX.then ?_
            refine GC.seq ?_
            refine GC.reg ?_
            refine GL.val (rv_move rfl) rfl ?_
            refine GL.val (rv_move rfl) rfl ?_
            refine GL.val (rv_assign rfl) rfl ?_
            refine GL.val (rv_assign rfl) rfl ?_
            refine GL.val (rv_assign rfl) rfl ?_
            refine GL.nil ?_
            refine GX.then ?_
            refine GC.ret ?_
            refine GX.ret3 rfl (RR.tmp rfl) (RR.tmp rfl) (RR.tmp rfl) ?_
            have e : res (Ml.pl psa) o.1.1 o.1.2 o.2.1 = (Ml.pl psa, Ml.zero, 0) := by unfold res; simp [c1, c4, c7]
            have e' : nxt (Ml.pl psa) o.1.1 o.1.2 o.2.1 = Ml.pl psa := by unfold nxt; rw [e]; simp
            rw [e']
            exact fun w h => ⟨(((A, c), psa), ((B, d), psb), []), rfl, (St.frzN0 h).take 1, rfl, hab.symm, fun f hf => .inr hf, fun f hf => .inr (.inl hf)⟩
end Go.Proofs.Ytgdbcclammapnaa
