import Derived.Test.YtkifeeiafachpaaKc
set_option linter.unusedVariables false
set_option linter.unusedSimpArgs false
namespace Go.Proofs.Ytkifeeiafachpaa
open Go Go.RowKit Go.Bz

/-! 20.8: what is asked for other names -/
structure Ap (nm : ByteArray) (k : Nat) (a b : Dz) : Prop where
  ca : ckP a
  cb : ckP b
  len : a.1.length = b.1.length
  fr : a.2.2 = b.2.2
  ep : ∀ i (ha : i < a.1.length) (hb : i < b.1.length), fnd a.1[i] nm = fnd b.1[i] nm
  now : fnd (nowL a) nm = fnd (nowL b) nm
  la : (nowL a).length ≤ k
  lb : (nowL b).length ≤ k
  qa : a.2.1.length ≤ k
  qb : b.2.1.length ≤ k
  el : a.1.length ≤ k
theorem Ap.mono {nm : ByteArray} {k m : Nat} {a b : Dz} (h : Ap nm k a b) (hm : k ≤ m) : Ap nm m a b :=
  ⟨h.ca, h.cb, h.len, h.fr, h.ep, h.now, Nat.le_trans h.la hm, Nat.le_trans h.lb hm, Nat.le_trans h.qa hm, Nat.le_trans h.qb hm, Nat.le_trans h.el hm⟩
theorem Ap.symm {nm : ByteArray} {k : Nat} {a b : Dz} (h : Ap nm k a b) : Ap nm k b a :=
  ⟨h.cb, h.ca, h.len.symm, h.fr.symm, fun i hb ha => (h.ep i ha hb).symm, h.now.symm, h.lb, h.la, h.qb, h.qa, h.len ▸ h.el⟩
theorem dn_small {l : List Bd} {q : Rq} (h : l.length < 256) : dnE l q = nxe (fnd l q.2.1) q := by
  unfold dnE
  by_cases hn : nxe (fnd l q.2.1) q ≠ 0
  · rw [if_pos hn]
  · rw [if_neg hn, if_neg (fun x => by have := x.2; omega)]; exact (Decidable.byContradiction hn : nxe (fnd l q.2.1) q = 0).symm
theorem nx_no {d : Dz} {o : OpP} (h : ckP d) (h0 : o.1 = 0) (k : dnE (nowL d) o.2.1 ≠ 0) : nextD d o = d := by
  unfold nextD; rw [act0 h0, submit_dn h k]; exact if_pos k
theorem nx_yes {d : Dz} {o : OpP} (h : ckP d) (h0 : o.1 = 0) (k : dnE (nowL d) o.2.1 = 0) (f : ¬ 16 ≤ d.2.1.length) : nextD d o = (d.1, d.2.1 ++ [o.2.1], d.2.2) := by
  unfold nextD; rw [act0 h0, submit_ok h k f]; exact if_neg (fun x => x rfl)
theorem dnL_len {l : List Bd} {q : Rq} (hr : rightL l) (h0 : dnE l q = 0) : (dnL l q).length ≤ l.length + 1 := by
  rw [(dn_parts h0).2, insB_len hr.2.1]; split <;> omega
/-- a request for another name, of the first one alone -/
theorem Ap.other {nm : ByteArray} {k : Nat} {a b : Dz} {o : OpP} (h : Ap nm k a b) (hk : k < 16) (h0 : o.1 = 0) (hn : o.2.1.2.1 ≠ nm) : Ap nm (k + 1) (nextD a o) b := by
  by_cases e : dnE (nowL a) o.2.1 = 0
  · have f : ¬ 16 ≤ a.2.1.length := by have := h.qa; omega
    obtain ⟨c1, c2⟩ := ck_submit h.ca e f
    rw [nx_yes h.ca h0 e f]
    refine ⟨c1, h.cb, h.len, h.fr, h.ep, ?_, ?_, by have := h.lb; omega, ?_, by have := h.qb; omega, by have := h.el; exact Nat.le_succ_of_le this⟩
    · rw [c2, (dn_parts e).2, fnd_ins (now_r h.ca).2.1, if_neg (fun x => hn x.symm)]; exact h.now
    · rw [c2]; exact Nat.le_trans (dnL_len (now_r h.ca) e) (Nat.succ_le_succ h.la)
    · show (a.2.1 ++ [o.2.1]).length ≤ k + 1
      rw [List.length_append, List.length_singleton]; exact Nat.succ_le_succ h.qa
  · rw [nx_no h.ca h0 e]; exact h.mono (Nat.le_succ k)
/-- an act that is no request, or one for that name, of both -/
theorem Ap.both {nm : ByteArray} {k : Nat} {a b : Dz} {o : OpP} (h : Ap nm k a b) (hk : k < 16) (hn : o.1 ≠ 0 ∨ o.2.1.2.1 = nm) : Ap nm (k + 1) (nextD a o) (nextD b o) := by
  by_cases h0 : o.1 = 0
  · have hn : o.2.1.2.1 = nm := hn.resolve_left (fun x => x h0)
    have fa : ¬ 16 ≤ a.2.1.length := by have := h.qa; omega
    have fb : ¬ 16 ≤ b.2.1.length := by have := h.qb; omega
    have hab : dnE (nowL a) o.2.1 = dnE (nowL b) o.2.1 := by
      rw [dn_small (by have := h.la; omega), dn_small (by have := h.lb; omega), hn, h.now]
    by_cases e : dnE (nowL a) o.2.1 = 0
    · have e' := hab ▸ e
      obtain ⟨c1, c2⟩ := ck_submit h.ca e fa
      obtain ⟨d1, d2⟩ := ck_submit h.cb e' fb
      rw [nx_yes h.ca h0 e fa, nx_yes h.cb h0 e' fb]
      refine ⟨c1, d1, h.len, h.fr, h.ep, ?_, ?_, ?_, ?_, ?_, Nat.le_succ_of_le h.el⟩
      · rw [c2, d2, (dn_parts e).2, (dn_parts e').2, fnd_ins (now_r h.ca).2.1, fnd_ins (now_r h.cb).2.1, show (nxb (fnd (nowL a) o.2.1.2.1) o.2.1).1 = o.2.1.2.1 from rfl, show (nxb (fnd (nowL b) o.2.1.2.1) o.2.1).1 = o.2.1.2.1 from rfl, if_pos hn.symm, if_pos hn.symm, hn, h.now]
      · rw [c2]; exact Nat.le_trans (dnL_len (now_r h.ca) e) (Nat.succ_le_succ h.la)
      · rw [d2]; exact Nat.le_trans (dnL_len (now_r h.cb) e') (Nat.succ_le_succ h.lb)
      · show (a.2.1 ++ [o.2.1]).length ≤ k + 1
        rw [List.length_append, List.length_singleton]; exact Nat.succ_le_succ h.qa
      · show (b.2.1 ++ [o.2.1]).length ≤ k + 1
        rw [List.length_append, List.length_singleton]; exact Nat.succ_le_succ h.qb
    · rw [nx_no h.ca h0 e, nx_no h.cb h0 (hab ▸ e)]; exact h.mono (Nat.le_succ k)
  by_cases h1 : o.1 = 1
  · have fa : ¬ 64 ≤ a.1.length := by have := h.el; omega
    have fb : ¬ 64 ≤ b.1.length := by have := h.el; have := h.len; omega
    have ea : nextD a o = (a.1 ++ [nowL a], [], a.2.2) := by unfold nextD; rw [act1 h1, seal_ok h.ca fa]; exact if_neg (fun x => x rfl)
    have eb : nextD b o = (b.1 ++ [nowL b], [], b.2.2) := by unfold nextD; rw [act1 h1, seal_ok h.cb fb]; exact if_neg (fun x => x rfl)
    obtain ⟨c1, c2⟩ := ck_seal h.ca fa
    obtain ⟨d1, d2⟩ := ck_seal h.cb fb
    rw [ea, eb]
    refine ⟨c1, d1, ?_, h.fr, fun i ha hb => ?_, by rw [c2, d2]; exact h.now, by rw [c2]; exact Nat.le_succ_of_le h.la, by rw [d2]; exact Nat.le_succ_of_le h.lb, Nat.zero_le _, Nat.zero_le _, ?_⟩
    · show (a.1 ++ [nowL a]).length = (b.1 ++ [nowL b]).length
      rw [List.length_append, List.length_append, h.len]; rfl
    · have ha : i < (a.1 ++ [nowL a]).length := ha
      have hb : i < (b.1 ++ [nowL b]).length := hb
      show fnd (a.1 ++ [nowL a])[i] nm = fnd (b.1 ++ [nowL b])[i] nm
      rw [List.length_append, List.length_singleton] at ha hb
      have hl := h.len
      rcases Nat.lt_or_ge i a.1.length with q | q
      · rw [List.getElem_append_left q, List.getElem_append_left (by omega)]; exact h.ep i q (by omega)
      · rw [List.getElem_append_right q, List.getElem_append_right (by omega)]
        simp only [show i - a.1.length = 0 by omega, show i - b.1.length = 0 by omega, List.getElem_cons_zero]
        exact h.now
    · show (a.1 ++ [nowL a]).length ≤ k + 1
      rw [List.length_append, List.length_singleton]; exact Nat.succ_le_succ h.el
  by_cases h4 : o.1 = 4
  · by_cases f : o.2.2.2.2.toNat < 1 ∨ a.1.length < o.2.2.2.2.toNat
    · have ea : nextD a o = a := by unfold nextD; rw [act4 h4, prune_no h.ca f]; exact if_pos (by decide)
      have eb : nextD b o = b := by unfold nextD; rw [act4 h4, prune_no h.cb (h.len ▸ f)]; exact if_pos (by decide)
      rw [ea, eb]; exact h.mono (Nat.le_succ k)
    · have f' : ¬ (o.2.2.2.2.toNat < 1 ∨ b.1.length < o.2.2.2.2.toNat) := h.len ▸ f
      have ea : nextD a o = (a.1, a.2.1, if a.2.2.toNat < o.2.2.2.2.toNat then o.2.2.2.2 else a.2.2) := by unfold nextD; rw [act4 h4, prune_ok h.ca f]; exact if_neg (fun x => x rfl)
      have eb : nextD b o = (b.1, b.2.1, if b.2.2.toNat < o.2.2.2.2.toNat then o.2.2.2.2 else b.2.2) := by unfold nextD; rw [act4 h4, prune_ok h.cb f']; exact if_neg (fun x => x rfl)
      rw [ea, eb]
      have m := h.mono (Nat.le_succ k)
      exact ⟨ck_prune h.ca f, ck_prune h.cb f', h.len, by show (if a.2.2.toNat < _ then _ else _) = (if b.2.2.toNat < _ then _ else _); rw [h.fr], h.ep, h.now, m.la, m.lb, m.qa, m.qb, m.el⟩
  · have ea : nextD a o = a := by unfold nextD; rw [actN h0 h1 h4]; exact if_neg (fun x => x rfl)
    have eb : nextD b o = b := by unfold nextD; rw [actN h0 h1 h4]; exact if_neg (fun x => x rfl)
    rw [ea, eb]; exact h.mono (Nat.le_succ k)
theorem Ap.look {nm : ByteArray} {k : Nat} {a b : Dz} {n : UInt64} (h : Ap nm k a b) (h1 : a.2.2.toNat ≤ n.toNat) (h2 : n.toNat ≤ a.1.length) : lookP a nm n = lookP b nm n := by
  have hf := h.ca.1
  unfold headP at hf
  by_cases hk : okn nm = true
  · have aa : ansE a n = 0 := by unfold ansE; rw [if_neg (by omega), if_neg (by omega)]
    have ab : ansE b n = 0 := by unfold ansE; rw [if_neg (by rw [← h.len]; omega), if_neg (by rw [← h.fr]; omega)]
    rw [look_ok h.ca hk aa, look_ok h.cb hk ab]
    have ha : n.toNat - 1 < a.1.length := by omega
    have hb : n.toNat - 1 < b.1.length := by rw [← h.len]; exact ha
    unfold fdP
    rw [List.getD_eq_getElem?_getD, List.getElem?_eq_getElem ha, List.getD_eq_getElem?_getD, List.getElem?_eq_getElem hb, Option.getD_some, Option.getD_some, h.ep _ ha hb]
  · have hk' : okn nm = false := by simpa using hk
    rw [look_nm h.ca hk', look_nm h.cb hk']
theorem ap_new (nm : ByteArray) : Ap nm 0 dNew dNew := ⟨ck_new, ck_new, rfl, rfl, fun i h _ => absurd h (Nat.not_lt_zero _), rfl, Nat.le_refl _, Nat.le_refl _, Nat.le_refl _, Nat.le_refl _, Nat.le_refl _⟩
set_option maxRecDepth 100000 in
set_option maxHeartbeats 1000000 in
theorem apart_law (A : Option Addr) (c : Nat) (os : List OpZ) (w : World) (hR : SlR w A (fcat ozc os)) (hof : Has w (os.map ofx)) (ho1 : ∀ o ∈ os, oOk1 o) (nm : ByteArray) (hnm : nm.size < 4611686018427387904) : Calls Try.prog 8 [.slice A os.length c, .string nm].toArray w fun e w' => ∃ _g : Unit, e = .returned (.bool true) ∧ St noB w w' [] ∧ True := by
  refine GC.calls Try.func8 rfl rfl (St.begin _) ?_
  have ho0 : ∀ o ∈ os, oOk0 o := fun o ho => (ho1 o ho).2.2.1
  refine GC.seq ?_
  refine GC.reg ?_
  refine GL.val (rv_assign rfl) rfl ?_
  refine GL.nil ?_
  refine GX.then ?_
  refine GC.seq ?_
  refine GC.seq ?_
  refine GC.cutq (γ := Unit) [1, 0] [] (fun g Lk => (20, .bool (decide (¬ FewP os ∨ 16 < os.length))) :: Lk) (fun g Fk => Fk) (fun g => True) rfl rfl ?_ (fun _ _ => ?_)
  · rcases (or_first2 : (¬ FewP os) ∨ (¬ (¬ FewP os) ∧ 16 < os.length) ∨ (¬ (¬ FewP os) ∧ ¬ (16 < os.length))) with h | ⟨h, k⟩ | ⟨h, k⟩
    · have hb1 : decide (FewP os) = false := decide_eq_false h
      rw [show decide (¬ FewP os ∨ 16 < os.length) = true from decide_eq_true (.inl h)]
      refine GC.reg ?_
      refine GL.val (rv_move rfl) rfl ?_
      refine GL.step (ot_call hb_10 rfl (callOk fun w hh => few_b _ A _ c os w (hh.rd0n hR) ho0 rfl hb1) rfl fun _ _ => ?_)
      refine GL.val (rv_not rfl) rfl ?_
      refine GL.val (rv_move rfl) rfl ?_
      refine GL.skipG rfl rfl ?_
      refine GL.skipG rfl rfl ?_
      refine GL.skipG rfl rfl ?_
      refine GL.val ((by exact rv_orT rfl rfl rfl)) rfl ?_
      refine GL.nil ?_
      exact GX.cutq () trivial (by repeat (first | exact Sub.nil | refine Sub.cons rfl ?_)) (fun w9 h => by
          exact h)
    · have hb1 : decide (FewP os) = true := decide_eq_true (Decidable.byContradiction h)
      skip
      rw [show decide (¬ FewP os ∨ 16 < os.length) = true from decide_eq_true (.inr k)]
      refine GC.reg ?_
      refine GL.val (rv_move rfl) rfl ?_
      refine GL.step (ot_call hb_10 rfl (callOk fun w hh => few_b _ A _ c os w (hh.rd0n hR) ho0 rfl hb1) rfl fun _ _ => ?_)
      refine GL.val (rv_not rfl) rfl ?_
      refine GL.val (rv_move rfl) rfl ?_
      refine GL.valT rfl (rv_move rfl) rfl ?_
      refine GL.valT rfl (rv_lenSl Try.underlying36 rfl) rfl ?_
      refine GL.valT rfl ((by exact rv_to (v' := .bool true) (rv_gtr rfl rfl) (congrArg Value.bool (decide_eq_true (by omega))))) rfl ?_
      refine GL.val ((by exact rv_orF rfl rfl rfl)) rfl ?_
      refine GL.nil ?_
      exact GX.cutq () trivial (by repeat (first | exact Sub.nil | refine Sub.cons rfl ?_)) (fun w9 h => by
          exact h)
    · have hb1 : decide (FewP os) = true := decide_eq_true (Decidable.byContradiction h)
      skip
      rw [show decide (¬ FewP os ∨ 16 < os.length) = false from decide_eq_false (fun q => q.elim h k)]
      refine GC.reg ?_
      refine GL.val (rv_move rfl) rfl ?_
      refine GL.step (ot_call hb_10 rfl (callOk fun w hh => few_b _ A _ c os w (hh.rd0n hR) ho0 rfl hb1) rfl fun _ _ => ?_)
      refine GL.val (rv_not rfl) rfl ?_
      refine GL.val (rv_move rfl) rfl ?_
      refine GL.valT rfl (rv_move rfl) rfl ?_
      refine GL.valT rfl (rv_lenSl Try.underlying36 rfl) rfl ?_
      refine GL.valT rfl ((by exact rv_to (v' := .bool false) (rv_gtr rfl rfl) (congrArg Value.bool (decide_eq_false (by omega))))) rfl ?_
      refine GL.val ((by exact rv_orF rfl rfl rfl)) rfl ?_
      refine GL.nil ?_
      exact GX.cutq () trivial (by repeat (first | exact Sub.nil | refine Sub.cons rfl ?_)) (fun w9 h => by
          exact h)
  refine GX.then ?_
  refine GC.condP rfl (fun c20 => ?_) (fun c20 => ?_)
  · skip
    refine GC.seq ?_
    refine GC.reg ?_
    refine GL.step (ot_call hb_11 rfl (callOk fun w hh => mworks_c w) rfl fun _ _ => ?_)
    refine GL.val (rv_assign rfl) rfl ?_
    refine GL.nil ?_
    refine GX.then ?_
    refine GC.ret ?_
    refine GX.then_ret ?_
    refine GX.ret1 rfl (RR.tmp rfl) ?_
    exact fun w9 h => ⟨(), rfl, by
        exact h, trivial⟩
  · have hfw : FewP os := Decidable.byContradiction fun h => c20 (.inl h)
    have h16 : os.length ≤ 16 := Nat.le_of_not_lt fun h => c20 (.inr h)
    refine GC.skip ?_
    refine GX.then ?_
    refine GC.seq ?_
    refine GC.reg ?_
    refine GL.step (ot_call hb_15 rfl (callOk fun w hh => mnew_c w) rfl fun _ _ => ?_)
    refine GL.step (ot_call hb_15 rfl (callOk fun w hh => mnew_c w) rfl fun _ _ => ?_)
    refine GL.step (ot_alloc (zs := [.slice none 0 0, .slice none 0 0, .int .u64 0]) zb_26 rfl rfl fun b5 => ?_)
    refine GL.step (ot_alloc (zs := [.slice none 0 0, .slice none 0 0, .int .u64 0]) zb_26 rfl rfl fun b6 => ?_)
    refine GL.step (ot_store (k := 1) rfl rfl rfl rfl sz_26 rfl rfl (show repl _ 0 (dcell dzN) = dcell dzN from rfl) ?_)
    refine GL.step (ot_store (k := 0) rfl rfl rfl rfl sz_26 rfl rfl (show repl _ 0 (dcell dzN) = dcell dzN from rfl) ?_)
    refine GL.nil ?_
    refine GX.then ?_
    refine GC.seq ?_
    refine GC.seq ?_
    refine GC.reg ?_
    refine GL.val (rv_assign rfl) rfl ?_
    refine GL.nil ?_
    refine GX.then ?_
    refine GC.block ?_
    refine GC.loopK (γ := Nat × DirZ × DirZ × List Fact) [6, 5, 1, 0] [] (fun g Lk => (7, .int .i64 (g.1 : Int)) :: Lk) (fun g Fk => .cl b5 (dcell g.2.1) 26 :: .cl b6 (dcell g.2.2.1) 26 :: frzN g.2.2.2 :: Fk) (fun g => (g.1 ≤ os.length) ∧ (Ap nm g.1 (dpl g.2.1) (dpl g.2.2.1)) ∧ (Sbs (dfx g.2.1 ++ dfx g.2.2.1) g.2.2.2 (os.map ofx)) ∧ (dOk g.2.1) ∧ (dOk g.2.2.1)) (fun g => os.length - g.1) (0, dzN, dzN, []) rfl rfl ⟨Nat.zero_le _, ap_new nm, (fun f hf => (List.mem_append.1 hf).elim (sb_new f) (sb_new f)), dok_new 1, dok_new 1⟩ (by repeat (first | exact Sub.nil | refine Sub.cons rfl ?_)) (fun w9 h => by
        have h := h.frzN0
        have h := h.sel [0, 1, 2] rfl rfl
        exact h) (fun ⟨i, x, y, F⟩ ⟨hi, hap, hs, hox, hoy⟩ => ?_)
    dsimp only at hi hap hs hox hoy ⊢
    refine GC.seq ?_
    refine GC.seq ?_
    refine GC.reg ?_
    refine GL.val (rv_move rfl) rfl ?_
    refine GL.val (rv_move rfl) rfl ?_
    refine GL.val (rv_lenSl Try.underlying36 rfl) rfl ?_
    refine GL.val (rv_lss rfl rfl) rfl ?_
    refine GL.nil ?_
    refine GX.then ?_
    refine GC.condP rfl (fun c27 => ?_) (fun c27 => ?_)
    · have hlt : i < os.length := by omega
      have h60 := hfw.1
      obtain ⟨b, o, rfl, hC⟩ := slr_some hR (fcat_ne (oz_len ho0) (by decide) hlt)
      have hom : os[i] ∈ os := List.getElem_mem _
      have hoi := oOk_of ho1 hfw hom
      have hol : (ozc os[i]).length = 39 := oz_len ho0 _ hom
      refine GC.skip ?_
      refine GX.then ?_
      refine GC.seq ?_
      refine GC.block ?_
      refine GC.seq ?_
      refine GC.draw 11 [0] mo_ ?_
      refine GD.pure1 (i := 2) rfl (fun _ _ => rv_move rfl) ?_
      refine GD.pure1 (i := 3) rfl (fun _ _ => rv_move rfl) ?_
      refine GD.pure1 (i := 4) rfl (fun _ _ => rv_elemJ (q := o + i * 39) i es_36 rfl rfl rfl hlt rfl) ?_
      refine GD.read1 (i := 0) rfl (rv_loadA ag_26 rfl (Hd.cells (k := 0) rfl (us := dcell x) rfl) (by exact sz_26)) ?_
      refine GD.read1 (i := 1) rfl (rv_loadA ag_26 rfl (Hd.cells (k := 0) rfl (us := dcell x) rfl) (by exact sz_26)) ?_
      refine GD.step (i := 5) (by kernel_rfl) rfl (ot_val (rv_loadAL ag_33 rfl (Hd.cells0 (hC.fcat (oz_len ho0) i hlt) (fun h => h)) (by exact sz_33) hol) rfl ⟨.inr fun _ h => h.pk [0], ?_⟩)
      refine GD.step (i := 6) (by kernel_rfl) rfl (ot_call hb_14 rfl (callOk fun w hh => step_c x x os[i] w (has_l hs hh (k := 2) rfl hof) (has_l hs hh (k := 2) rfl hof) hox hox rfl ((has_of hof hom).lift hh) hoi) rfl fun g37 h37 => ⟨.inr fun _ h => h.pk [1], ?_⟩)
      refine GD.pure1 (i := 7) rfl (fun _ _ => rv_move rfl) ?_
      refine GD.pure1 (i := 8) rfl (fun _ _ => rv_extract rfl rfl) ?_
      refine GD.pure1 (i := 9) rfl (fun _ _ => rv_extract rfl rfl) ?_
      refine GD.pure1 (i := 10) rfl (fun _ _ => rv_extract rfl rfl) ?_
      refine GD.step (i := 11) (by kernel_rfl) rfl (ot_store (k := 1) rfl rfl rfl rfl sz_26 rfl rfl (show repl (dcell x) 0 (dcell g37.1.1) = dcell g37.1.1 from rfl) ⟨.inl rfl, ?_⟩)
      refine GD.done (by kernel_rfl) ?_
      refine GX.then ?_
      refine GC.seq ?_
      refine GC.cutq (γ := Unit) [7, 6, 5, 1, 0] [3, 2, 1, 0] (fun g Lk => (56, .bool (decide (os[i].1 ≠ 0 ∨ os[i].2.1.2.1 = nm))) :: Lk) (fun g Fk => Fk) (fun g => True) rfl rfl ?_ (fun _ _ => ?_)
      · rcases (by by_cases h : os[i].1 = 0 <;> simp [h] : (os[i].1 ≠ 0) ∨ (os[i].1 = 0)) with h | h
        · rw [show decide (os[i].1 ≠ 0 ∨ os[i].2.1.2.1 = nm) = true from decide_eq_true (.inl h)]
          refine GC.reg ?_
          refine GL.val (rv_move rfl) rfl ?_
          refine GL.val (rv_move rfl) rfl ?_
          refine GL.val (rv_elemJ (q := o + i * 39) i es_36 rfl rfl rfl hlt rfl) rfl ?_
          refine GL.val (rv_field fo_33_0 rfl rfl) rfl ?_
          refine GL.val (rv_load ag_3 rfl (Hd.cell0 ((hC.fcat (oz_len ho0) i hlt) 0 _ rfl) (fun h => h))) rfl ?_
          refine GL.val ((by exact rv_to (v' := .bool true) (rv_neI rfl rfl) (by simp only [Value.bool.injEq, decide_eq_true_eq, decide_eq_false_iff_not]; first | assumption | omega))) rfl ?_
          refine GL.val (rv_move rfl) rfl ?_
          refine GL.skipG rfl rfl ?_
          refine GL.skipG rfl rfl ?_
          refine GL.skipG rfl rfl ?_
          refine GL.skipG rfl rfl ?_
          refine GL.skipG rfl rfl ?_
          refine GL.skipG rfl rfl ?_
          refine GL.skipG rfl rfl ?_
          refine GL.skipG rfl rfl ?_
          refine GL.val ((by exact rv_orT rfl rfl rfl)) rfl ?_
          refine GL.nil ?_
          exact GX.cutq () trivial (by repeat (first | exact Sub.nil | refine Sub.cons rfl ?_)) (fun w9 h => by
              exact h)
        · rw [show decide (os[i].1 ≠ 0 ∨ os[i].2.1.2.1 = nm) = decide (os[i].2.1.2.1 = nm) from decide_eq_decide.2 ⟨fun q => q.resolve_left (fun z => z h), fun q => .inr q⟩]
          refine GC.reg ?_
          refine GL.val (rv_move rfl) rfl ?_
          refine GL.val (rv_move rfl) rfl ?_
          refine GL.val (rv_elemJ (q := o + i * 39) i es_36 rfl rfl rfl hlt rfl) rfl ?_
          refine GL.val (rv_field fo_33_0 rfl rfl) rfl ?_
          refine GL.val (rv_load ag_3 rfl (Hd.cell0 ((hC.fcat (oz_len ho0) i hlt) 0 _ rfl) (fun h => h))) rfl ?_
          refine GL.val ((by exact rv_to (v' := .bool false) (rv_neI rfl rfl) (by simp only [Value.bool.injEq, decide_eq_true_eq, decide_eq_false_iff_not]; first | assumption | omega))) rfl ?_
          refine GL.val (rv_move rfl) rfl ?_
          refine GL.valT rfl (rv_move rfl) rfl ?_
          refine GL.valT rfl (rv_move rfl) rfl ?_
          refine GL.valT rfl (rv_elemJ (q := o + i * 39) i es_36 rfl rfl rfl hlt rfl) rfl ?_
          refine GL.valT rfl (rv_field fo_33_1 rfl rfl) rfl ?_
          refine GL.valT rfl (rv_field fo_31_1 rfl rfl) rfl ?_
          refine GL.valT rfl (rv_load ag_9 rfl (Hd.cell0 ((hC.fcat (oz_len ho0) i hlt) 2 _ rfl) (fun h => h))) rfl ?_
          refine GL.valT rfl (rv_move rfl) rfl ?_
          refine GL.valT rfl (rv_eqS rfl rfl) rfl ?_
          refine GL.val ((by exact rv_orF rfl rfl rfl)) rfl ?_
          refine GL.nil ?_
          exact GX.cutq () trivial (by repeat (first | exact Sub.nil | refine Sub.cons rfl ?_)) (fun w9 h => by
              exact h)
      refine GX.then ?_
      refine GC.condP rfl (fun c56 => ?_) (fun c56 => ?_)
      · have hsel := c56
        refine GC.draw 11 [2] mo_ ?_
        refine GD.pure1 (i := 2) rfl (fun _ _ => rv_move rfl) ?_
        refine GD.pure1 (i := 3) rfl (fun _ _ => rv_move rfl) ?_
        refine GD.pure1 (i := 4) rfl (fun _ _ => rv_elemJ (q := o + i * 39) i es_36 rfl rfl rfl hlt rfl) ?_
        refine GD.read1 (i := 0) rfl (rv_loadA ag_26 rfl (Hd.cells (k := 0) rfl (us := dcell y) rfl) (by exact sz_26)) ?_
        refine GD.read1 (i := 1) rfl (rv_loadA ag_26 rfl (Hd.cells (k := 0) rfl (us := dcell y) rfl) (by exact sz_26)) ?_
        refine GD.step (i := 5) (by kernel_rfl) rfl (ot_val (rv_loadAL ag_33 rfl (Hd.cells0 (hC.fcat (oz_len ho0) i hlt) (fun h => h)) (by exact sz_33) hol) rfl ⟨.inr fun _ h => h.pk [2], ?_⟩)
        refine GD.step (i := 6) (by kernel_rfl) rfl (ot_call hb_14 rfl (callOk fun w hh => step_c y y os[i] w (has_r hs hh (k := 3) rfl hof) (has_r hs hh (k := 3) rfl hof) hoy hoy rfl ((has_of hof hom).lift hh) hoi) rfl fun g64 h64 => ⟨.inr fun _ h => h.pk [3], ?_⟩)
        refine GD.pure1 (i := 7) rfl (fun _ _ => rv_move rfl) ?_
        refine GD.pure1 (i := 8) rfl (fun _ _ => rv_extract rfl rfl) ?_
        refine GD.pure1 (i := 9) rfl (fun _ _ => rv_extract rfl rfl) ?_
        refine GD.pure1 (i := 10) rfl (fun _ _ => rv_extract rfl rfl) ?_
        refine GD.step (i := 11) (by kernel_rfl) rfl (ot_store (k := 3) rfl rfl rfl rfl sz_26 rfl rfl (show repl (dcell y) 0 (dcell g64.1.1) = dcell g64.1.1 from rfl) ⟨.inl rfl, ?_⟩)
        refine GD.done (by kernel_rfl) ?_
        refine GX.blk ?_
        refine GX.then ?_
        refine GC.reg ?_
        refine GL.val (rv_move rfl) rfl ?_
        refine GL.val (rv_add rfl rfl (by omega) (by omega)) rfl ?_
        refine GL.val (rv_assign rfl) rfl ?_
        refine GL.nil ?_
        obtain ⟨hp1, hp2, hsb, ho1x, ho1y⟩ := h37
        obtain ⟨kp1, kp2, ksb, ko1x, ko1y⟩ := h64
        have sx := sb_step1 hsb (hs.sub fun f hf => List.mem_append_left _ hf) (List.mem_map_of_mem hom)
        have sy := sb_step1 ksb (hs.sub fun f hf => List.mem_append_right _ hf) (List.mem_map_of_mem hom)
        exact GX.round (i + 1, g37.1.1, g64.1.1, (g64.2 ++ g37.2) ++ F) (by dsimp only; omega) ⟨by dsimp only; omega, by (have := hap.both (o := opl os[i]) (by omega) hsel; rw [← hp1, ← kp1] at this; exact this), (sx.wid (fun f hf => (List.mem_append.1 hf).elim (fun h => List.mem_append_left _ (List.mem_append_right _ h)) (fun h => List.mem_append_right _ h))).app (sy.wid (fun f hf => (List.mem_append.1 hf).elim (fun h => List.mem_append_left _ (List.mem_append_left _ h)) (fun h => List.mem_append_right _ h))), ho1x, ko1x⟩ (by repeat (first | exact Sub.nil | refine Sub.cons rfl ?_)) (fun w9 h => by
            have h := h.sel [3, 2, 4, 1, 0] rfl rfl
            have h := h.frzNAdd
            have h := h.frzNAdd
            have h := h.sel [0, 2, 1] rfl rfl
            exact h)
      · have hsel : os[i].1 = 0 ∧ os[i].2.1.2.1 ≠ nm := ⟨Decidable.byContradiction fun h => c56 (.inl h), fun h => c56 (.inr h)⟩
        refine GC.skip ?_
        refine GX.blk ?_
        refine GX.then ?_
        refine GC.reg ?_
        refine GL.val (rv_move rfl) rfl ?_
        refine GL.val (rv_add rfl rfl (by omega) (by omega)) rfl ?_
        refine GL.val (rv_assign rfl) rfl ?_
        refine GL.nil ?_
        obtain ⟨hp1, hp2, hsb, ho1x, ho1y⟩ := h37
        have sx := sb_step1 hsb (hs.sub fun f hf => List.mem_append_left _ hf) (List.mem_map_of_mem hom)
        exact GX.round (i + 1, g37.1.1, y, g37.2 ++ F) (by dsimp only; omega) ⟨by dsimp only; omega, by (have := hap.other (o := opl os[i]) (by omega) hsel.1 hsel.2; rw [← hp1] at this; exact this), sx.app ((hs.sub fun f hf => List.mem_append_right _ hf).wid (fun f hf => List.mem_append_right _ hf)), ho1x, hoy⟩ (by repeat (first | exact Sub.nil | refine Sub.cons rfl ?_)) (fun w9 h => by
            have h := h.sel [2, 1, 3, 0] rfl rfl
            have h := h.frzNAdd
            have h := h.sel [0, 2, 1] rfl rfl
            exact h)
    · obtain rfl : i = os.length := by omega
      have hx3 := hox.2.2.1
      have hll : x.1.2.length = y.1.2.length := by have := hap.len; rwa [show (dpl x).1 = x.1.2.map epl from rfl, show (dpl y).1 = y.1.2.map epl from rfl, List.length_map, List.length_map] at this
      have hlx : (dpl x).1.length = x.1.2.length := by show (x.1.2.map epl).length = _; rw [List.length_map]
      have hfr : x.2.2 = y.2.2 := hap.fr
      have hhd := hap.ca.1
      unfold headP at hhd
      rw [hlx] at hhd
      have hhd2 : x.2.2.toNat ≤ max 1 x.1.2.length := hhd.2.2.2
      refine GC.exit ?_
      refine GX.then_exit ?_
      refine GX.then_exit ?_
      refine GX.blk_eq ?_
      refine GX.then ?_
      refine GC.seq ?_
      refine GC.seq ?_
      refine GC.reg ?_
      refine GL.val (rv_field fo_26_0 rfl rfl) rfl ?_
      refine GL.val (rv_load ag_22 rfl (Hd.cell (k := 0) rfl rfl)) rfl ?_
      refine GL.val (rv_lenSl Try.underlying22 rfl) rfl ?_
      refine GL.val (rv_field fo_26_0 rfl rfl) rfl ?_
      refine GL.val (rv_load ag_22 rfl (Hd.cell (k := 1) rfl rfl)) rfl ?_
      refine GL.val (rv_lenSl Try.underlying22 rfl) rfl ?_
      refine GL.val (rv_to (v' := .bool false) (rv_neI rfl rfl) (by exact congrArg Value.bool (decide_eq_false (by omega)))) rfl ?_
      refine GL.val (rv_move rfl) rfl ?_
      refine GL.valT rfl (rv_field fo_26_2 rfl rfl) rfl ?_
      refine GL.valT rfl (rv_load ag_24 rfl (Hd.cell (k := 0) rfl rfl)) rfl ?_
      refine GL.valT rfl (rv_field fo_26_2 rfl rfl) rfl ?_
      refine GL.valT rfl (rv_load ag_24 rfl (Hd.cell (k := 1) rfl rfl)) rfl ?_
      refine GL.valT rfl (rv_to (v' := .bool false) (rv_ne64 rfl rfl) (by exact congrArg Value.bool (decide_eq_false (fun q => q hfr)))) rfl ?_
      refine GL.val ((by exact rv_orF rfl rfl rfl)) rfl ?_
      refine GL.nil ?_
      refine GX.then ?_
      refine GC.cond rfl (fun c81 => ?_) (fun c81 => ?_)
      · cases c81
      · skip
        refine GC.skip ?_
        refine GX.then ?_
        refine GC.seq ?_
        refine GC.seq ?_
        refine GC.reg ?_
        refine GL.val (rv_field fo_26_2 rfl rfl) rfl ?_
        refine GL.val (rv_load ag_24 rfl (Hd.cell (k := 0) rfl rfl)) rfl ?_
        refine GL.val (rv_assign rfl) rfl ?_
        refine GL.nil ?_
        refine GX.then ?_
        refine GC.block ?_
        refine GC.loopK (γ := UInt64) [6, 5, 1] [2, 1, 0] (fun g Lk => (8, v64 g) :: Lk) (fun g Fk => Fk) (fun g => (x.2.2.toNat ≤ g.toNat) ∧ (g.toNat ≤ x.1.2.length + 1)) (fun g => x.1.2.length + 1 - g.toNat) (x.2.2) rfl rfl ⟨Nat.le_refl _, by omega⟩ (by repeat (first | exact Sub.nil | refine Sub.cons rfl ?_)) (fun w9 h => by
            exact h) (fun n ⟨hn1, hn2⟩ => ?_)
        skip
        refine GC.seq ?_
        refine GC.seq ?_
        refine GC.reg ?_
        refine GL.val (rv_move rfl) rfl ?_
        refine GL.val (rv_field fo_26_0 rfl rfl) rfl ?_
        refine GL.val (rv_load ag_22 rfl (Hd.cell (k := 0) rfl rfl)) rfl ?_
        refine GL.val (rv_lenSl Try.underlying22 rfl) rfl ?_
        refine GL.val (rv_conv64I x.1.2.length Try.underlying3 Try.underlying24 rfl rfl) rfl ?_
        refine GL.val (rv_to (v' := .bool (decide (n.toNat ≤ x.1.2.length))) (rv_leq rfl rfl) (congrArg Value.bool (decide_eq_decide.2 (by rw [ofNat_toNat64 (by omega)]; omega)))) rfl ?_
        refine GL.nil ?_
        refine GX.then ?_
        refine GC.condP rfl (fun c89 => ?_) (fun c89 => ?_)
        · have hn3 : n.toNat ≤ x.1.2.length := by simpa using c89
          have hlk := hap.look (n := n) hn1 (by rw [hlx]; exact hn3)
          refine GC.skip ?_
          refine GX.then ?_
          refine GC.seq ?_
          refine GC.block ?_
          refine GC.seq ?_
          refine GC.reg ?_
          refine GL.val (rv_loadA ag_26 rfl (Hd.cells (k := 0) rfl (us := dcell x) rfl) (by exact sz_26)) rfl ?_
          refine GL.val (rv_move rfl) rfl ?_
          refine GL.val (rv_move rfl) rfl ?_
          refine GL.step (ot_call hb_20 rfl (callOk fun w hh => look_c x nm n w (has_l hs hh (k := 2) rfl hof) hox hnm) rfl fun g96 h96 => ?_)
          refine GL.val (rv_move rfl) rfl ?_
          refine GL.val (rv_extract rfl rfl) rfl ?_
          refine GL.val (rv_extract rfl rfl) rfl ?_
          refine GL.step (ot_alloc (zs := [.int .u64 0, .bool false, .string ByteArray.empty, .slice none 0 0, .int .u64 0]) zb_55 rfl rfl fun b9 => ?_)
          refine GL.step (ot_store (k := 0) rfl rfl rfl rfl sz_55 rfl rfl (show repl _ 0 (fzc g96.1) = fzc g96.1 from rfl) ?_)
          refine GL.val (rv_assign rfl) rfl ?_
          refine GL.nil ?_
          refine GX.then ?_
          refine GC.seq ?_
          refine GC.reg ?_
          refine GL.val (rv_loadA ag_26 rfl (Hd.cells (k := 3) rfl (us := dcell y) rfl) (by exact sz_26)) rfl ?_
          refine GL.val (rv_move rfl) rfl ?_
          refine GL.val (rv_move rfl) rfl ?_
          refine GL.step (ot_call hb_20 rfl (callOk fun w hh => look_c y nm n w (has_r hs hh (k := 4) rfl hof) hoy hnm) rfl fun g103 h103 => ?_)
          rw [← hlk]
          refine GL.val (rv_move rfl) rfl ?_
          refine GL.val (rv_extract rfl rfl) rfl ?_
          refine GL.val (rv_extract rfl rfl) rfl ?_
          refine GL.step (ot_alloc (zs := [.int .u64 0, .bool false, .string ByteArray.empty, .slice none 0 0, .int .u64 0]) zb_55 rfl rfl fun b11 => ?_)
          refine GL.step (ot_store (k := 0) rfl rfl rfl rfl sz_55 rfl rfl (show repl _ 0 (fzc g103.1) = fzc g103.1 from rfl) ?_)
          refine GL.val (rv_assign rfl) rfl ?_
          refine GL.nil ?_
          refine GX.then ?_
          refine GC.seq ?_
          refine GC.reg ?_
          refine GL.val (rv_move rfl) rfl ?_
          refine GL.val (rv_move rfl) rfl ?_
          refine GL.val (rv_to (v' := .bool false) (rv_neI rfl rfl) (by simp)) rfl ?_
          refine GL.val (rv_move rfl) rfl ?_
          refine GL.valT rfl (rv_loadA ag_55 rfl (Hd.cells (k := 2) rfl (us := fzc g96.1) rfl) (by exact sz_55)) rfl ?_
          refine GL.valT rfl (rv_loadA ag_55 rfl (Hd.cells (k := 0) rfl (us := fzc g103.1) rfl) (by exact sz_55)) rfl ?_
          refine GL.stepG rfl (ot_call hb_22 rfl (callOk fun w hh => samef_t g96.1 g103.1 w (has2 h96.2.1 (hs.sub fun f hf => List.mem_append_left _ hf) hh (k1 := 3) (k2 := 6) rfl rfl hof) (has2 h103.2.1 (hs.sub fun f hf => List.mem_append_right _ hf) hh (k1 := 1) (k2 := 6) rfl rfl hof) (by rw [h96.1, h103.1, hlk])) rfl fun _ _ => ?_)
          refine GL.valT rfl (rv_not rfl) rfl ?_
          refine GL.val ((by exact rv_orF rfl rfl rfl)) rfl ?_
          refine GL.nil ?_
          refine GX.then ?_
          refine GC.cond rfl (fun c114 => ?_) (fun c114 => ?_)
          · cases c114
          · skip
            refine GC.skip ?_
            refine GX.blk ?_
            refine GX.then ?_
            refine GC.reg ?_
            refine GL.val (rv_move rfl) rfl ?_
            refine GL.val (rv_add64 (b := 1) rfl rfl) rfl ?_
            refine GL.val (rv_assign rfl) rfl ?_
            refine GL.nil ?_
            exact GX.round (n + 1) (by rw [add1 (by omega)]; omega) ⟨by rw [add1 (by omega)]; omega, by rw [add1 (by omega)]; omega⟩ (by repeat (first | exact Sub.nil | refine Sub.cons rfl ?_)) (fun w9 h => by
                have h := h.sel [6, 5, 4] rfl rfl
                exact h)
        · skip
          refine GC.exit ?_
          refine GX.then_exit ?_
          refine GX.then_exit ?_
          refine GX.blk_eq ?_
          refine GX.then ?_
          refine GC.seq ?_
          refine GC.reg ?_
          refine GL.step (ot_call hb_11 rfl (callOk fun w hh => mworks_c w) rfl fun _ _ => ?_)
          refine GL.val (rv_assign rfl) rfl ?_
          refine GL.nil ?_
          refine GX.then ?_
          refine GC.ret ?_
          refine GX.ret1 rfl (RR.tmp rfl) ?_
          exact fun w9 h => ⟨(), rfl, by
              have h := h.sel [] rfl rfl
              exact h, trivial⟩
end Go.Proofs.Ytkifeeiafachpaa
