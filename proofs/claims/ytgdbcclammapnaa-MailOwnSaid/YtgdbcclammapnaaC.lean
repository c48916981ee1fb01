import Derived.Test.YtgdbcclammapnaaB
set_option linter.unusedVariables false
set_option linter.unusedSimpArgs false
namespace Go.Proofs.Ytgdbcclammapnaa
open Go Go.RowKit Go.Bz
theorem hb_12 : hasBody Try.prog 12 = true := by kernel_rfl
theorem hb_23 : hasBody Try.prog 23 = true := by kernel_rfl
theorem hb_24 : hasBody Try.prog 24 = true := by kernel_rfl
theorem pl_25 : placesB Try.prog 25 = some [(0, 1), (1, 1), (2, 1)] := by kernel_rfl
theorem pcs_take (qs : List Ml.Pv) : ∀ k, (Ml.pcs qs).take (k * 3) = Ml.pcs (qs.take k) := by
  induction qs with
  | nil => intro k; simp [Ml.pcs]
  | cons q qs ih =>
    intro k
    cases k with
    | zero => simp [Ml.pcs]
    | succ k =>
      show (Ml.pcell q ++ Ml.pcs qs).take ((k + 1) * 3) = Ml.pcell q ++ Ml.pcs (qs.take k)
      rw [List.take_append, List.take_of_length_le (by simp [Ml.pcell]; omega), ← ih k]
      congr 2
      simp [Ml.pcell]; omega
theorem pcs_drop (qs : List Ml.Pv) : ∀ k, (Ml.pcs qs).drop (k * 3) = Ml.pcs (qs.drop k) := by
  induction qs with
  | nil => intro k; simp [Ml.pcs]
  | cons q qs ih =>
    intro k
    cases k with
    | zero => simp [Ml.pcs]
    | succ k =>
      show (Ml.pcell q ++ Ml.pcs qs).drop ((k + 1) * 3) = Ml.pcs (qs.drop k)
      rw [List.drop_append, List.drop_of_length_le (by simp [Ml.pcell]; omega), List.nil_append, ← ih k]
      congr 1
      simp [Ml.pcell]; omega
theorem pcs_er (qs : List Ml.Pv) (k : Nat) : (Ml.pcs qs).take (k * 3) ++ (Ml.pcs qs).drop ((k + 1) * 3) = Ml.pcs (qs.eraseIdx k) := by
  rw [pcs_take, pcs_drop, ← Ml.pcs_app, List.eraseIdx_eq_take_drop_succ]
theorem pl_er (qs : List Ml.Pv) (k : Nat) : Ml.pl (qs.eraseIdx k) = (Ml.pl qs).eraseIdx k := by
  simp only [Ml.pl, List.eraseIdx_eq_take_drop_succ, List.map_append, List.map_take, List.map_drop]
theorem pl_getD (ps : List Ml.Pv) (k : Nat) (h : k < ps.length) : (Ml.pl ps).getD k Ml.zero = ps[k].1 := by
  rw [List.getD_eq_getElem?_getD, List.getElem?_eq_getElem (by rw [Ml.pl_len]; exact h), Ml.pl_get ps k h]; rfl
theorem pmemE {A : Option Addr} {qs : List Ml.Pv} {q : Ml.Pv} {l : List Fact} {k : Nat} (h1 : (A, Ml.pcs (qs.eraseIdx k)) ∈ l) (h2 : Ml.bfact q ∈ l) (h3 : ∀ f ∈ qs.map Ml.bfact, f ∈ l) : ∀ f ∈ Ml.pfs A (qs.eraseIdx k) ++ [Ml.bfact q], f ∈ l := fun f hf => by
  simp only [Ml.pfs, List.mem_cons, List.mem_append, List.not_mem_nil, or_false] at hf
  rcases hf with (rfl | hf) | rfl
  · exact h1
  · exact h3 f (by
      obtain ⟨q', hq', rfl⟩ := List.mem_map.1 hf
      exact List.mem_map_of_mem (List.mem_of_mem_eraseIdx hq'))
  · exact h2
theorem St.pfNil2 {w0 w : World} {Fs : List Pc} (h : St noB w0 w Fs) : St noB w0 w (frzN (Ml.pfs none [] ++ [Ml.bfact (Ml.zero, (none, 0))]) :: Fs) := h.put0 fun f hf => by
  simp [Ml.pfs, Ml.pcs, Ml.bfact, Ml.zero, byts] at hf; rcases hf with rfl | rfl <;> exact .inl rfl
set_option maxRecDepth 100000 in
set_option maxHeartbeats 1000000 in
theorem take_c (A : Option Addr) (n c : Nat) (ps : List Ml.Pv) (w : World) (hR : ∀ f ∈ Ml.pfs A ps, SlR w f.1 f.2) (hl : ps.length = n) (hn : n ≤ 1000000) (hb : ∀ q ∈ ps, q.1.2.2.length ≤ 100000000) (z : Int) :
    Calls Try.prog 13 [.slice A n c, .int .i64 z].toArray w fun e w' => ∃ g : (Option Addr × Nat) × List Ml.Pv × Ml.Pv, e = .returned (.tuple #[.slice g.1.1 g.2.1.length g.1.2, .agg (Ml.pcell g.2.2).toArray, .int .i64 (Ml.take (Ml.pl ps) z).2.2]) ∧ St noB w w' [frzN (Ml.pfs g.1.1 g.2.1 ++ [Ml.bfact g.2.2])] ∧ Ml.pl g.2.1 = (Ml.take (Ml.pl ps) z).1 ∧ g.2.2.1 = (Ml.take (Ml.pl ps) z).2.1 := by
  refine GC.calls Try.func13 rfl rfl (St.begin _) ?_
  subst hl
  have HA := Ml.pHead (hR (A, Ml.pcs ps) (List.mem_cons_self ..))
  have hpl := Ml.pl_len ps
  refine GC.seq ?_
  refine GC.reg ?_
  refine GL.val (rv_assign rfl) rfl ?_
  refine GL.step (ot_alloc (zs := [.int .i64 0, .int .i64 0, .slice none 0 0]) zb_25 rfl rfl fun b5 => ?_)
  refine GL.val (rv_assign rfl) rfl ?_
  refine GL.nil ?_
  refine GX.then ?_
  refine GC.seq ?_
  refine GC.reg ?_
  refine GL.val (rv_move rfl) rfl ?_
  refine GL.val (rv_move rfl) rfl ?_
  refine GL.step (ot_call hb_23 rfl (callOk fun w hh => place_c A _ c z (Ml.pl ps) hpl w) rfl fun _ _ => ?_)
  refine GL.val (rv_move rfl) rfl ?_
  refine GL.val (rv_extract rfl rfl) rfl ?_
  refine GL.val (rv_extract rfl rfl) rfl ?_
  refine GL.val (rv_assign rfl) rfl ?_
  refine GL.val (rv_assign rfl) rfl ?_
  refine GL.nil ?_
  refine GX.then ?_
  refine GC.seq ?_
  refine GC.seq ?_
  refine GC.reg ?_
  refine GL.val (rv_move rfl) rfl ?_
  refine GL.val (rv_neI rfl rfl) rfl ?_
  refine GL.nil ?_
  refine GX.then ?_
  first | refine GC.condP rfl (fun c1 => ?_) (fun c1 => ?_) | refine GC.cond rfl (fun c1 => ?_) (fun c1 => ?_)
  · have e := Ml.take_err c1
    refine GC.seq ?_
    refine GC.reg ?_
    refine GL.val (rv_buildS pl_25 zb_25 rfl rfl (by first | ((simp only [bldL, repl, List.set_cons_zero, List.set_cons_succ, List.getElem?_cons_zero, List.getElem?_cons_succ, Option.getD_some, Value.cells]) <;> rfl) | rfl)) rfl ?_
    refine GL.val (rv_move rfl) rfl ?_
    refine GL.val (rv_assign rfl) rfl ?_
    first | refine GL.step (ot_store (k := 0) rfl rfl rfl rfl sz_25 rfl rfl (by first | ((simp only [repl, List.set_cons_zero, List.set_cons_succ]) <;> rfl) | rfl) ?_)
    refine GL.val (rv_assign rfl) rfl ?_
    refine GL.nil ?_
    refine GX.then ?_
    refine GC.ret ?_
    refine GX.then_ret ?_
    refine GX.ret3 rfl (RR.tmp rfl) (RR.cell ag_25 rfl (by first | exact Hd.cellsAll (k := 0) rfl | exact Hd.cells0 (by assumption) (by first | exact fun h => h | assumption)) (by exact sz_25)) (RR.tmp rfl) ?_
    rw [e]
    exact fun w h => ⟨((none, 0), [], (Ml.zero, (none, 0))), rfl, (St.pfNil2 h).take 1, rfl, rfl⟩
  · obtain ⟨k, hk, ek, e, _⟩ := Ml.place_ok c1
    obtain ⟨b, o, rfl, hC⟩ := HA.resolve_left (by omega)
    simp only [ek]
    refine GC.skip ?_
    refine GX.then ?_
    refine GC.seq ?_
    refine GC.draw 12 [] mo_ ?_
    refine GD.pure (i := 0) rfl (fun _ _ => rv_move rfl) (by kernel_rfl) (by repeat (first | exact noPanicPut_body | exact noPanicPut_cut | exact noPanicPut_cutE | refine noPanicPut_then ?_ | refine noPanicPut_blk ?_)) ?_
    refine GD.pure (i := 2) rfl (fun _ _ => rv_move rfl) (by kernel_rfl) (by repeat (first | exact noPanicPut_body | exact noPanicPut_cut | exact noPanicPut_cutE | refine noPanicPut_then ?_ | refine noPanicPut_blk ?_)) ?_
    refine GD.pure (i := 3) rfl (fun _ _ => rv_move rfl) (by kernel_rfl) (by repeat (first | exact noPanicPut_body | exact noPanicPut_cut | exact noPanicPut_cutE | refine noPanicPut_then ?_ | refine noPanicPut_blk ?_)) ?_
    refine GD.pure (i := 4) rfl (fun _ _ => rv_add rfl rfl (by omega) (by omega)) (by kernel_rfl) (by repeat (first | exact noPanicPut_body | exact noPanicPut_cut | exact noPanicPut_cutE | refine noPanicPut_then ?_ | refine noPanicPut_blk ?_)) ?_
    refine GD.pure (i := 6) rfl (fun _ _ => rv_move rfl) (by kernel_rfl) (by repeat (first | exact noPanicPut_body | exact noPanicPut_cut | exact noPanicPut_cutE | refine noPanicPut_then ?_ | refine noPanicPut_blk ?_)) ?_
    refine GD.pure (i := 7) rfl (fun _ _ => rv_move rfl) (by kernel_rfl) (by repeat (first | exact noPanicPut_body | exact noPanicPut_cut | exact noPanicPut_cutE | refine noPanicPut_then ?_ | refine noPanicPut_blk ?_)) ?_
    refine GD.pure (i := 8) rfl (fun _ _ => rv_elem es_22 rfl rfl (by omega) (by omega)) (by kernel_rfl) (by repeat (first | exact noPanicPut_body | exact noPanicPut_cut | exact noPanicPut_cutE | refine noPanicPut_then ?_ | refine noPanicPut_blk ?_)) ?_
    refine GD.read (i := 9) rfl (rv_loadA ag_25 rfl (Hd.cells0 (Ml.pcC hC hk) (fun h => h)) (by exact sz_25)) (by kernel_rfl) (by repeat (first | exact noPanicPut_body | exact noPanicPut_cut | exact noPanicPut_cutE | refine noPanicPut_then ?_ | refine noPanicPut_blk ?_)) ?_
    refine GD.step (i := 1) (by kernel_rfl) rfl (ot_call hb_21 rfl (callOk fun w hh => own_c (some ⟨b, o, none⟩) _ c ps w (fun f hf => hh.rd0n (hR f hf)) rfl hn hb) rfl fun g27 hqs => ⟨.inr fun _ h => h.pk [], ?_⟩)
    obtain ⟨⟨A27, c27⟩, qs⟩ := g27
    dsimp only at hqs
    have hql : ps.length = qs.length := by rw [← Ml.pl_len qs, hqs, hpl]
    refine GD.rowForm (i := 0) rfl fun _ hc27 hf27 => ?_
    obtain ⟨b27, rfl⟩ := hf27.resolve_left (by omega)
    refine GD.step (i := 5) (by kernel_rfl) rfl (ot_call hb_24 rfl (callOkM (k := 0) rfl fun w S _ hA hb => deleteP_c b27 c27 ps.length k (k + 1) (Ml.pcs qs) w S hA hb (by omega) (by omega) (Ml.pcs_one qs)) rfl fun _ _ => ⟨.inr fun _ h => h.pk [], ?_⟩)
    refine GD.step (i := 10) (by kernel_rfl) rfl (ot_call hb_22 rfl (callOk fun w hh => copied_c ps[k] w (hh.rd0n (hR _ (Ml.bmem hk _))) (hb _ (List.getElem_mem hk))) rfl fun g29 _ => ⟨.inr fun _ h => h.pk [], ?_⟩)
    obtain ⟨A29, c29⟩ := g29
    refine GD.pure (i := 11) rfl (fun _ _ => rv_assign rfl) (by kernel_rfl) (by repeat (first | exact noPanicPut_body | exact noPanicPut_cut | exact noPanicPut_cutE | refine noPanicPut_then ?_ | refine noPanicPut_blk ?_)) ?_
    first | refine GD.step (i := 12) (by kernel_rfl) rfl (ot_store (k := 0) rfl rfl rfl rfl sz_25 rfl rfl (by first | ((simp only [repl, List.set_cons_zero, List.set_cons_succ]) <;> rfl) | rfl) ⟨.inl rfl, ?_⟩) | refine GD.step (i := 12) (by kernel_rfl) rfl (ot_store (k := 1) rfl rfl rfl rfl sz_25 rfl rfl (by first | ((simp only [repl, List.set_cons_zero, List.set_cons_succ]) <;> rfl) | rfl) ⟨.inl rfl, ?_⟩) | refine GD.step (i := 12) (by kernel_rfl) rfl (ot_store (k := 2) rfl rfl rfl rfl sz_25 rfl rfl (by first | ((simp only [repl, List.set_cons_zero, List.set_cons_succ]) <;> rfl) | rfl) ⟨.inl rfl, ?_⟩) | refine GD.step (i := 12) (by kernel_rfl) rfl (ot_store (k := 3) rfl rfl rfl rfl sz_25 rfl rfl (by first | ((simp only [repl, List.set_cons_zero, List.set_cons_succ]) <;> rfl) | rfl) ⟨.inl rfl, ?_⟩)
    refine GD.pure (i := 13) rfl (fun _ _ => rv_assign rfl) (by kernel_rfl) (by repeat (first | exact noPanicPut_body | exact noPanicPut_cut | exact noPanicPut_cutE | refine noPanicPut_then ?_ | refine noPanicPut_blk ?_)) ?_
    refine GD.done (by kernel_rfl) ?_
    refine GX.then ?_
    refine GC.ret ?_
    refine GX.ret3 rfl (RR.tmp rfl) (RR.cell ag_25 rfl (by first | exact Hd.cellsAll (k := 0) rfl | exact Hd.cellsAll (k := 1) rfl | exact Hd.cellsAll (k := 2) rfl | exact Hd.cellsAll (k := 3) rfl | exact Hd.cells0 (by assumption) (by first | exact fun h => h | assumption)) (by exact sz_25)) (RR.tmp rfl) ?_
    exact fun w h => by
      refine ⟨((some ⟨b27, 0, none⟩, c27), qs.eraseIdx k, (ps[k].1, (A29, c29))), ?_, ?_, by rw [e, pl_er, hqs], by rw [e]⟩
      · rw [e]; dsimp only; rw [show (qs.eraseIdx k).length = ps.length - (k + 1 - k) by rw [List.length_eraseIdx_of_lt (by omega)]; omega]; rfl
      have h1 := ((h.rowFrz (k := 1) rfl).frzNAdd).frzNAdd
      rw [pcs_er] at h1
      refine (h1.frzNSub (k := 0) rfl (pmemE ?_ ?_ ?_)).take 1
      · simp
      · simp
      · intro f hf; simp at hf ⊢; simp [hf]
set_option maxRecDepth 100000 in
set_option maxHeartbeats 1000000 in
theorem double_c (A : Option Addr) (n c : Nat) (ps : List Ml.Pv) (w : World) (hR : ∀ f ∈ Ml.pfs A ps, SlR w f.1 f.2) (hl : ps.length = n) (hn : n ≤ 1000000) (hb : ∀ q ∈ ps, q.1.2.2.length ≤ 100000000) (z : Int) :
    Calls Try.prog 15 [.slice A n c, .int .i64 z].toArray w fun e w' => ∃ g : (Option Addr × Nat) × List Ml.Pv, e = .returned (.tuple #[.slice g.1.1 g.2.length g.1.2, .int .i64 (Ml.double (Ml.pl ps) z).2]) ∧ St noB w w' [frzN (Ml.pfs g.1.1 g.2)] ∧ Ml.pl g.2 = (Ml.double (Ml.pl ps) z).1 := by
  refine GC.calls Try.func15 rfl rfl (St.begin _) ?_
  subst hl
  have HA := Ml.pHead (hR (A, Ml.pcs ps) (List.mem_cons_self ..))
  have hpl := Ml.pl_len ps
  refine GC.seq ?_
  refine GC.reg ?_
  refine GL.val (rv_assign rfl) rfl ?_
  refine GL.val (rv_assign rfl) rfl ?_
  refine GL.nil ?_
  refine GX.then ?_
  refine GC.seq ?_
  refine GC.reg ?_
  refine GL.val (rv_move rfl) rfl ?_
  refine GL.val (rv_move rfl) rfl ?_
  refine GL.step (ot_call hb_23 rfl (callOk fun w hh => place_c A _ c z (Ml.pl ps) hpl w) rfl fun _ _ => ?_)
  refine GL.val (rv_move rfl) rfl ?_
  refine GL.val (rv_extract rfl rfl) rfl ?_
  refine GL.val (rv_extract rfl rfl) rfl ?_
  refine GL.val (rv_assign rfl) rfl ?_
  refine GL.val (rv_assign rfl) rfl ?_
  refine GL.nil ?_
  refine GX.then ?_
  refine GC.seq ?_
  refine GC.seq ?_
  refine GC.reg ?_
  refine GL.val (rv_move rfl) rfl ?_
  refine GL.val (rv_neI rfl rfl) rfl ?_
  refine GL.nil ?_
  refine GX.then ?_
  first | refine GC.condP rfl (fun c1 => ?_) (fun c1 => ?_) | refine GC.cond rfl (fun c1 => ?_) (fun c1 => ?_)
  · have e := Ml.double_err c1
    refine GC.seq ?_
    refine GC.reg ?_
    refine GL.val (rv_move rfl) rfl ?_
    refine GL.val (rv_assign rfl) rfl ?_
    refine GL.val (rv_assign rfl) rfl ?_
    refine GL.nil ?_
    refine GX.then ?_
    refine GC.ret ?_
    refine GX.then_ret ?_
    refine GX.ret2 rfl (RR.tmp rfl) (RR.tmp rfl) ?_
    rw [e]
    exact fun w h => ⟨((none, 0), []), rfl, St.pfNil h, rfl⟩
  · obtain ⟨k, hk, ek, _, e⟩ := Ml.place_ok c1
    obtain ⟨b, o, rfl, hC⟩ := HA.resolve_left (by omega)
    simp only [ek]
    refine GC.skip ?_
    refine GX.then ?_
    refine GC.seq ?_
    refine GC.reg ?_
    refine GL.val (rv_move rfl) rfl ?_
    refine GL.val (rv_move rfl) rfl ?_
    refine GL.val (rv_move rfl) rfl ?_
    refine GL.val (rv_elem es_22 rfl rfl (by omega) (by omega)) rfl ?_
    refine GL.val (rv_loadA ag_25 rfl (Hd.cells0 (Ml.pcC hC hk) (fun h => h)) (by exact sz_25)) rfl ?_
    refine GL.step (ot_call hb_12 rfl (callOk fun w hh => send_c (some ⟨b, o, none⟩) _ c ps w (fun f hf => hh.rd0n (hR f hf)) rfl hn hb ps[k] (hh.rd0n (hR _ (Ml.bmem hk _))) (hb _ (List.getElem_mem hk))) rfl fun g22 hqs => ?_)
    refine GL.val (rv_extract rfl rfl) rfl ?_
    refine GL.val (rv_extract rfl rfl) rfl ?_
    refine GL.val (rv_assign rfl) rfl ?_
    refine GL.val (rv_assign rfl) rfl ?_
    refine GL.nil ?_
    refine GX.then ?_
    refine GC.ret ?_
    refine GX.ret2 rfl (RR.tmp rfl) (RR.tmp rfl) ?_
    rw [e]
    exact fun w h => ⟨g22, rfl, h, hqs⟩
end Go.Proofs.Ytgdbcclammapnaa
