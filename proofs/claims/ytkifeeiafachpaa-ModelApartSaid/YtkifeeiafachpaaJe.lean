import Derived.Test.YtkifeeiafachpaaJd
set_option linter.unusedVariables false
set_option linter.unusedSimpArgs false
namespace Go.Proofs.Ytkifeeiafachpaa
open Go Go.RowKit Go.Bz
theorem hb_49 : hasBody Try.prog 49 = true := by kernel_rfl
theorem hb_52 : hasBody Try.prog 52 = true := by kernel_rfl
theorem hb_53 : hasBody Try.prog 53 = true := by kernel_rfl
theorem hb_54 : hasBody Try.prog 54 = true := by kernel_rfl
theorem nextZ_c (hv : Bool) (z : BindZ) (q : ReqZ) (E : Int) (hE : nxt hv z.1 z.2.1 z.2.2.2 q.1 q.2.1 q.2.2.1 q.2.2.2.2 = E) (w : World) (hz : SlR w z.2.2.1.1 (byts z.2.1)) (hzc : z.2.1.length ≤ z.2.2.1.2) (hzl : z.2.1.length ≤ 2000) (hQ : Has w [rfx q]) (hq : qOk q) : Calls Try.prog 52 [.agg (bzc z).toArray, .bool hv, .agg (qzc q).toArray].toArray w fun e w' => ∃ g : Option Addr × Nat, e = .returned (.tuple #[.agg (bcell (rn E q.2.1) (rk E q.2.2.1) g.1 g.2 (rs E (nser q.1 z.2.2.2))).toArray, .int .i64 E]) ∧ St noB w w' [roP g.1 (byts (rk E q.2.2.1))] ∧ (rk E q.2.2.1).length ≤ g.2 := by
  subst hE; exact next_c hv z.1 z.2.1 z.2.2.1.1 z.2.2.1.2 z.2.2.2 q.1 q.2.1 q.2.2.1 q.2.2.2.1.1 q.2.2.2.1.2 q.2.2.2.2 w hz hzc hzl hq.2.2.2 hq.1 (hQ (rfx q) (List.mem_singleton.2 rfl)) hq.2.1 hq.2.2.1
theorem rnextZ_c (hv : Bool) (z : BindZ) (q : ReqZ) (E : Int) (hE : nxt hv z.1 z.2.1 z.2.2.2 q.1 q.2.1 q.2.2.1 q.2.2.2.2 = E) (w : World) (hz : SlR w z.2.2.1.1 (byts z.2.1)) (hzc : z.2.1.length ≤ z.2.2.1.2) (hzl : z.2.1.length ≤ 2000) (hQ : Has w [rfx q]) (hq : qOk q) : Calls Try.prog 56 [.agg (bzc z).toArray, .bool hv, .agg (qzc q).toArray].toArray w fun e w' => ∃ _g : Unit, e = .returned (.tuple #[.agg (bcell (rn E q.2.1) (rk E q.2.2.1) (rg E q.2.2.2.1.1 q.2.2.2.1.2).1 (rg E q.2.2.2.1.1 q.2.2.2.1.2).2 (rs E (nser q.1 z.2.2.2))).toArray, .int .i64 E]) ∧ St noB w w' [] ∧ True := by
  subst hE; exact rnext_c hv z.1 z.2.1 z.2.2.1.1 z.2.2.1.2 z.2.2.2 q.1 q.2.1 q.2.2.1 q.2.2.2.1.1 q.2.2.2.1.2 q.2.2.2.2 w hz hzc hzl hq.2.2.2 hq.1 (hQ (rfx q) (List.mem_singleton.2 rfl)) hq.2.1 hq.2.2.1
theorem nx_atN {l : List BindZ} {q : ReqZ} (h : Srt (nms l)) : nxt (hasN (nms l) q.2.1) (atN l q.2.1).1 (atN l q.2.1).2.1 (atN l q.2.1).2.2.2 q.1 q.2.1 q.2.2.1 q.2.2.2.2 = nxe (fnd (l.map bpl) q.2.1) (rpl q) := by
  obtain ⟨h1, h2, _⟩ := atN_pl (s := q.2.1) h
  unfold nxe
  rw [← h1, ← h2]; rfl
theorem nx_fd {l : List BindZ} {q : ReqZ} : nxt (fdZ l q.2.1).isSome ((fdZ l q.2.1).getD bz0).1 ((fdZ l q.2.1).getD bz0).2.1 ((fdZ l q.2.1).getD bz0).2.2.2 q.1 q.2.1 q.2.2.1 q.2.2.2.2 = nxe (fnd (l.map bpl) q.2.1) (rpl q) := by
  unfold nxe
  rw [fdZ_pl]
  cases fdZ l q.2.1 <;> rfl
theorem nb_atN {l : List BindZ} {q : ReqZ} (h : Srt (nms l)) (g : Option Addr × Nat) : bpl (q.2.1, q.2.2.1, g, nser q.1 (atN l q.2.1).2.2.2) = nxb (fnd (l.map bpl) q.2.1) (rpl q) := by
  unfold nxb
  rw [← (atN_pl (s := q.2.1) h).2.1]; rfl
theorem nb_fd {l : List BindZ} {q : ReqZ} (g : Option Addr × Nat) : bpl (q.2.1, q.2.2.1, g, nser q.1 ((fdZ l q.2.1).getD bz0).2.2.2) = nxb (fnd (l.map bpl) q.2.1) (rpl q) := by
  unfold nxb
  rw [fdZ_pl]
  cases fdZ l q.2.1 <;> rfl
/-- what is known of a binding among some that are right -/
theorem rb_facts {w : World} {e : EpZ} (hR : Has w (efx e)) (hok : eOk e) (hr : rightL (e.2.map bpl)) {z : BindZ} (hz : z ∈ e.2 ∨ z = bz0) : SlR w z.2.2.1.1 (byts z.2.1) ∧ z.2.1.length ≤ z.2.2.1.2 ∧ z.2.1.length ≤ 64 ∧ z.1.size ≤ 32 := by
  rcases hz with hz | rfl
  · obtain ⟨h1, _, h3⟩ := chk_inv (hr.1 (bpl z) (List.mem_map_of_mem hz)).1
    exact ⟨hR _ (efx_b hz), (hok.1 z hz).2, h3, h1⟩
  · exact ⟨.inl rfl, Nat.le_refl _, Nat.zero_le _, Nat.zero_le _⟩
theorem dn_err {l : List Bd} {q : Rq} {E : Int} (hE : nxe (fnd l q.2.1) q = E) (h : E ≠ 0) : dnE l q = E ∧ dnL l q = [] := by
  have : dnE l q = E := by unfold dnE; rw [hE, if_pos h]
  exact ⟨this, by unfold dnL; rw [this, if_neg h]⟩
theorem dn_full {l : List Bd} {q : Rq} (hE : nxe (fnd l q.2.1) q = 0) (h : (fnd l q.2.1).isSome = false) (hl : 256 ≤ l.length) : dnE l q = 9 ∧ dnL l q = [] := by
  have : dnE l q = 9 := by unfold dnE; rw [hE, if_neg (by decide), if_pos ⟨by cases hf : fnd l q.2.1 with | none => rfl | some x => (rw [hf] at h; cases h), hl⟩]
  exact ⟨this, by unfold dnL; rw [this, if_neg (by decide)]⟩
theorem dn_ok {l : List Bd} {q : Rq} (hE : nxe (fnd l q.2.1) q = 0) (h : (fnd l q.2.1).isSome = true ∨ l.length < 256) : dnE l q = 0 ∧ dnL l q = insB l (nxb (fnd l q.2.1) q) := by
  have : dnE l q = 0 := by
    unfold dnE; rw [hE, if_neg (by decide), if_neg]
    rintro ⟨h1, h2⟩
    rcases h with h | h
    · cases hf : fnd l q.2.1 with
      | none => rw [hf] at h; cases h
      | some x => rw [hf] at h1; cases h1
    · omega
  exact ⟨this, by unfold dnL; rw [this, if_pos rfl]⟩
theorem Sbs_ins {A' : Option Addr} {c' : Nat} {l' l : List BindZ} {nb : BindZ} {e0 : EpZ} {F J : List Fact} (h : ∀ x ∈ l', x ∈ l ∨ x = nb) (h0 : ∀ x ∈ l, bfx x ∈ J) (hF : (A', fcat bzc l') ∈ F) (hn : bfx nb ∈ F ∨ bfx nb ∈ J) : Sbs (efx ((A', c'), l')) F J := fun f hf => by
  unfold efx at hf
  rcases List.mem_cons.1 hf with rfl | hf
  · exact .inr (.inl hF)
  · obtain ⟨x, hx, rfl⟩ := List.mem_map.1 hf
    rcases h x hx with h1 | rfl
    · exact .inr (.inr (h0 x h1))
    · exact .inr hn
theorem hasN_lt {l : List BindZ} {s : ByteArray} (h : hasN (nms l) s = true) : lbn (nms l) s < l.length := by
  unfold hasN at h
  have := (of_decide_eq_true h).1
  rwa [nms_len] at this
theorem insZ_len_le {l : List BindZ} {b : BindZ} : (insZ l b).length ≤ 2 * l.length + 1 := by
  unfold insZ
  have h1 := List.length_filter_le (fun x : BindZ => decide (nlt x.1 b.1)) l
  have h2 := List.length_filter_le (fun x : BindZ => decide (nlt b.1 x.1)) l
  simp only [List.length_append, List.length_cons]; omega
set_option maxRecDepth 100000 in
set_option maxHeartbeats 1000000 in
theorem done_c (A : Option Addr) (c : Nat) (l : List BindZ) (q : ReqZ) (w : World) (hR : Has w (efx ((A, c), l))) (hok : eOk ((A, c), l)) (hr : rightL (l.map bpl)) (hQ : Has w [rfx q]) (hq : qOk q) : Calls Try.prog 39 [.slice A l.length c, .agg (qzc q).toArray].toArray w fun e w' => ∃ g : EpZ × List Fact, e = .returned (.tuple #[.slice g.1.1.1 g.1.2.length g.1.1.2, .int .i64 (dnE (l.map bpl) (rpl q))]) ∧ St noB w w' [frzN g.2] ∧ (epl g.1 = dnL (l.map bpl) (rpl q) ∧ Sbs (efx g.1) g.2 (rfx q :: efx ((A, c), l)) ∧ eOk g.1) := by
  refine GC.calls Try.func39 rfl rfl (St.begin _) ?_
  have hsrt : Srt (nms l) := sortP_iff.1 hr.2.1
  have hn : l.length ≤ 256 := by have := hr.2.2; rwa [List.length_map] at this
  have hA : SlR w A (fcat bzc l) := hR _ (efx_hd _)
  have hql : (qzc q).length = 35 := qc_len hq.2.2.2
  obtain ⟨E, hE⟩ : ∃ E, nxe (fnd (l.map bpl) q.2.1) (rpl q) = E := ⟨_, rfl⟩
  have hfl : ∀ x ∈ l, bfx x ∈ rfx q :: efx ((A, c), l) := fun x hx => List.mem_cons_of_mem _ (efx_b (e := ((A, c), l)) hx)
  obtain ⟨hz1, hz2, hz3, hz4⟩ := rb_facts hR hok hr (atN_pl (s := q.2.1) hsrt).2.2
  refine GC.seq ?_
  refine GC.reg ?_
  refine GL.step (ot_box rfl rfl rfl fun b3 => ?_)
  refine GL.val (rv_assign rfl) rfl ?_
  refine GL.val (rv_assign rfl) rfl ?_
  refine GL.nil ?_
  refine GX.then ?_
  refine GC.seq ?_
  refine GC.reg ?_
  refine GL.val (rv_move rfl) rfl ?_
  refine GL.val (rv_field fo_31_1 rfl rfl) rfl ?_
  refine GL.val (rv_load ag_9 rfl (Hd.cell (k := 0) rfl rfl)) rfl ?_
  refine GL.step (ot_call hb_49 rfl (callOk fun w hh => by_c A c l q.2.1 w (hh.rd0n hA) hsrt (by omega)) rfl fun _ _ => ?_)
  refine GL.val (rv_move rfl) rfl ?_
  refine GL.val (rv_extract rfl rfl) rfl ?_
  refine GL.val (rv_extract rfl rfl) rfl ?_
  refine GL.val (rv_assign rfl) rfl ?_
  refine GL.val (rv_assign rfl) rfl ?_
  refine GL.nil ?_
  refine GX.then ?_
  refine GC.seq ?_
  refine GC.reg ?_
  refine GL.step (ot_alloc (zs := [.string ByteArray.empty, .slice none 0 0, .int .u64 0]) zb_49 rfl rfl fun b8 => ?_)
  refine GL.nil ?_
  refine GX.then ?_
  refine GC.seq ?_
  refine GC.seq ?_
  refine GC.reg ?_
  refine GL.val (rv_move rfl) rfl ?_
  refine GL.nil ?_
  refine GX.then ?_
  refine GC.cutq (γ := Unit) [8, 7, 6, 3, 0] [1] (fun g Lk => Lk) (fun g Fk => .cl b8 (bzc (atN l q.2.1)) 49 :: Fk) (fun g => True) rfl rfl ?_ (fun _ _ => ?_)
  · refine GC.condP rfl (fun c18 => ?_) (fun c18 => ?_)
    · have c18 : hasN (nms l) q.2.1 = true := decide_eq_true c18
      have hlt := hasN_lt c18
      have hat : (atN l q.2.1) = l[(lbn (nms l) q.2.1)] := by unfold atN; rw [if_pos c18, List.getD_eq_getElem?_getD, List.getElem?_eq_getElem hlt]; rfl
      obtain ⟨b, o, rfl, hC⟩ := slr_some hA (fcat_ne bz_len (by decide) hlt)
      refine GC.reg ?_
      refine GL.val (rv_move rfl) rfl ?_
      refine GL.val (rv_move rfl) rfl ?_
      refine GL.val (rv_elemJ (q := o + ((lbn (nms l) q.2.1)) * 3) ((lbn (nms l) q.2.1)) es_46 rfl rfl (by rfl) (by exact hlt) rfl) rfl ?_
      refine GL.val (rv_loadA ag_49 rfl (Hd.cells0 (hC.fcat bz_len (lbn (nms l) q.2.1) hlt) (fun h => h)) (by exact sz_49)) rfl ?_
      refine GL.step (ot_store (k := 0) rfl rfl rfl rfl sz_49 rfl rfl (show repl _ 0 (bzc l[(lbn (nms l) q.2.1)]) = bzc l[(lbn (nms l) q.2.1)] from rfl) ?_)
      refine GL.nil ?_
      exact GX.cutq () trivial (by repeat (first | exact Sub.nil | refine Sub.cons rfl ?_)) (fun w9 h => by
          rw [hat]
          exact h)
    · have c18 : hasN (nms l) q.2.1 = false := decide_eq_false c18
      have hat : (atN l q.2.1) = bz0 := by unfold atN; rw [if_neg (by rw [c18]; decide)]
      refine GC.skip ?_
      exact GX.cutq () trivial (by repeat (first | exact Sub.nil | refine Sub.cons rfl ?_)) (fun w9 h => by
          rw [hat]
          exact h)
  refine GX.then ?_
  refine GC.seq ?_
  refine GC.reg ?_
  refine GL.val (rv_loadA ag_49 rfl (Hd.cells (k := 0) rfl (us := bzc (atN l q.2.1)) rfl) (by exact sz_49)) rfl ?_
  refine GL.val (rv_move rfl) rfl ?_
  refine GL.val (rv_loadAL ag_31 rfl (by exact Hd.cellsAll (k := 1) rfl) (by exact sz_31) (by (first | exact hql | rfl))) rfl ?_
  refine GL.step (ot_call hb_52 rfl (callOk fun w hh => nextZ_c (hasN (nms l) q.2.1) (atN l q.2.1) q E ((nx_atN hsrt).trans hE) w (hh.rd0n hz1) hz2 (by omega) (hQ.lift hh) hq) rfl fun g27 h27 => ?_)
  refine GL.val (rv_move rfl) rfl ?_
  refine GL.val (rv_extract rfl rfl) rfl ?_
  refine GL.val (rv_extract rfl rfl) rfl ?_
  refine GL.step (ot_alloc (zs := [.string ByteArray.empty, .slice none 0 0, .int .u64 0]) zb_49 rfl rfl fun b9 => ?_)
  refine GL.step (ot_store (k := 0) rfl rfl rfl rfl sz_49 rfl rfl (by rfl) ?_)
  refine GL.val (rv_assign rfl) rfl ?_
  refine GL.nil ?_
  refine GX.then ?_
  refine GC.seq ?_
  refine GC.block ?_
  refine GC.seq ?_
  refine GC.reg ?_
  refine GL.val (rv_move rfl) rfl ?_
  refine GL.val (rv_neI rfl rfl) rfl ?_
  refine GL.val (rv_assign rfl) rfl ?_
  refine GL.nil ?_
  refine GX.then ?_
  refine GC.condP rfl (fun c30 => ?_) (fun c30 => ?_)
  · have hd := dn_err (q := rpl q) hE c30
    refine GC.seq ?_
    refine GC.reg ?_
    refine GL.val (rv_move rfl) rfl ?_
    refine GL.val (rv_assign rfl) rfl ?_
    refine GL.val (rv_assign rfl) rfl ?_
    refine GL.nil ?_
    refine GX.then ?_
    refine GC.ret ?_
    refine GX.blk_ret ?_
    refine GX.then_ret ?_
    refine GX.ret2 rfl (RR.tmp rfl) (RR.tmp rfl) ?_
    exact fun w9 h => ⟨(((none, 0), []), []), (by rw [hd.1]; rfl), by
        have h := h.sel [] rfl rfl
        have h := (h.take 0).frzN0
        exact h, ⟨hd.2.symm ▸ rfl, Sbs.cons (.inl rfl) (Sbs.nil _ _), ⟨fun b hb => (by cases hb), Nat.zero_le _, Nat.le_refl _⟩⟩⟩
  · obtain rfl : E = 0 := Decidable.byContradiction c30
    simp only [rn_0, rk_0, rs_0]
    rw [rk_0] at h27
    refine GC.seq ?_
    refine GC.reg ?_
    refine GL.val (rv_move rfl) rfl ?_
    refine GL.val (rv_assign rfl) rfl ?_
    refine GL.nil ?_
    refine GX.then ?_
    refine GC.condP rfl (fun c34 => ?_) (fun c34 => ?_)
    · have c34 : hasN (nms l) q.2.1 = true := decide_eq_true c34
      have hlt := hasN_lt c34
      have hd := dn_ok (q := rpl q) hE (.inl (by rw [← (atN_pl hsrt).1]; exact c34))
      refine GC.seq ?_
      refine GC.reg ?_
      refine GL.val (rv_move rfl) rfl ?_
      refine GL.step (ot_call hb_53 rfl (callOk fun w hh => cloneB_c A l.length c (fcat bzc l) w (hh.rd0n hA) (fcat_len bz_len) bz_one (by omega)) rfl fun g37 _ => ?_)
      obtain ⟨A37, k37⟩ := g37
      dsimp only
      refine GL.val (rv_assign rfl) rfl ?_
      refine GL.nil ?_
      refine GX.then ?_
      refine GC.seq ?_
      refine GC.reg ?_
      refine GL.val (rv_move rfl) rfl ?_
      refine GL.val (rv_move rfl) rfl ?_
      refine GL.val (rv_loadAL ag_49 rfl (by exact Hd.cellsAll (k := 1) rfl) (by exact sz_49) (by (first | exact hql | rfl))) rfl ?_
      refine GL.rowForm (k := 0) rfl fun hx37 hc37 hf37 => ?_
      obtain ⟨bR, rfl⟩ := hf37.resolve_left (by omega)
      refine GL.val (rv_elemJ (q := 0 + (lbn (nms l) q.2.1) * 3) (lbn (nms l) q.2.1) es_46 rfl rfl rfl hlt rfl) rfl ?_
      refine GL.step (ot_storeRowA (k := 0) (vs := bzc (q.2.1, q.2.2.1, g27, nser q.1 (atN l q.2.1).2.2.2)) (xs' := fcat bzc (l.set (lbn (nms l) q.2.1) (q.2.1, q.2.2.1, g27, nser q.1 (atN l q.2.1).2.2.2))) rfl rfl rfl rfl sz_49 rfl (by rw [fcat_len bz_len]; show 0 + (lbn (nms l) q.2.1) * 3 + 3 ≤ _; omega) (by rw [Nat.zero_add, fcat_set bz_len _ hlt, List.append_assoc]; rfl) ?_)
      refine GL.nil ?_
      refine GX.then ?_
      refine GC.seq ?_
      refine GC.reg ?_
      refine GL.val (rv_move rfl) rfl ?_
      refine GL.val (rv_assign rfl) rfl ?_
      refine GL.val (rv_assign rfl) rfl ?_
      refine GL.nil ?_
      refine GX.then ?_
      refine GC.ret ?_
      refine GX.blk_ret ?_
      refine GX.then_ret ?_
      have hicp : (insZ l (q.2.1, q.2.2.1, g27, nser q.1 (atN l q.2.1).2.2.2)).length ≤ k37 := by rw [← ins_set hsrt (b := (q.2.1, q.2.2.1, g27, nser q.1 (atN l q.2.1).2.2.2)) c34, List.length_set]; exact hc37
      refine GX.ret2 rfl (RR.tmp rfl) (RR.tmp rfl) ?_
      exact fun w9 h => ⟨(((some ⟨bR, 0, none⟩, k37), insZ l (q.2.1, q.2.2.1, g27, nser q.1 (atN l q.2.1).2.2.2)), [(some ⟨bR, 0, none⟩, fcat bzc (insZ l (q.2.1, q.2.2.1, g27, nser q.1 (atN l q.2.1).2.2.2)))] ++ [(g27.1, byts q.2.2.1)]), (by rw [hd.1, ← ins_set hsrt (b := (q.2.1, q.2.2.1, g27, nser q.1 (atN l q.2.1).2.2.2)) c34, List.length_set]), by
          have h := h.sel [2, 0] rfl rfl
          have h := h.rowFrz (k := 0) rfl
          have h := h.roFrz (k := 1) rfl
          have h := h.frzNAdd
          rw [← ins_set hsrt (b := (q.2.1, q.2.2.1, g27, nser q.1 (atN l q.2.1).2.2.2)) c34]
          exact h, ⟨by rw [hd.2]; exact (insZ_pl _ _).trans (congrArg (insB _) (nb_atN hsrt g27)), Sbs_ins (e0 := ((A, c), l)) (fun x hx => insZ_mem hx) hfl (List.mem_cons_self ..) (.inl (List.mem_cons_of_mem _ (List.mem_singleton.2 rfl))), ⟨fun x hx => (insZ_mem hx).elim (hok.1 x) (fun e => e ▸ ⟨hq.1, h27⟩), by have := insZ_len_le (l := l) (b := (q.2.1, q.2.2.1, g27, nser q.1 (atN l q.2.1).2.2.2)); dsimp only; omega, hicp⟩⟩⟩
    · have c34 : hasN (nms l) q.2.1 = false := decide_eq_false c34
      refine GC.seq ?_
      refine GC.reg ?_
      refine GL.val (rv_move rfl) rfl ?_
      refine GL.val (rv_lenSl Try.underlying46 rfl) rfl ?_
      refine GL.val (rv_geq rfl rfl) rfl ?_
      refine GL.val (rv_assign rfl) rfl ?_
      refine GL.nil ?_
      refine GX.then ?_
      refine GC.condP rfl (fun c43 => ?_) (fun c43 => ?_)
      · have hd := dn_full (q := rpl q) hE (by rw [← (atN_pl hsrt).1]; exact c34) (by rw [List.length_map]; omega)
        refine GC.seq ?_
        refine GC.reg ?_
        refine GL.val (rv_assign rfl) rfl ?_
        refine GL.val (rv_assign rfl) rfl ?_
        refine GL.nil ?_
        refine GX.then ?_
        refine GC.ret ?_
        refine GX.blk_ret ?_
        refine GX.then_ret ?_
        refine GX.ret2 rfl (RR.tmp rfl) (RR.tmp rfl) ?_
        exact fun w9 h => ⟨(((none, 0), []), []), (by rw [hd.1]; rfl), by
            have h := h.sel [] rfl rfl
            have h := (h.take 0).frzN0
            exact h, ⟨hd.2.symm ▸ rfl, Sbs.cons (.inl rfl) (Sbs.nil _ _), ⟨fun b hb => (by cases hb), Nat.zero_le _, Nat.le_refl _⟩⟩⟩
      · have hd := dn_ok (q := rpl q) hE (.inr (by rw [List.length_map]; omega))
        refine GC.skip ?_
        refine GX.blk ?_
        refine GX.then ?_
        refine GC.seq ?_
        refine GC.draw 8 [0] mo_ ?_
        refine GD.pure1 (i := 0) rfl (fun _ _ => rv_move rfl) ?_
        refine GD.pure1 (i := 2) rfl (fun _ _ => rv_move rfl) ?_
        refine GD.read1 (i := 3) rfl (rv_loadAL ag_49 rfl (by exact Hd.cellsAll (k := 0) rfl) (by exact sz_49) (by (first | exact hql | rfl))) ?_
        refine GD.eachN2 (i := 1) (j := 4) (by kernel_rfl) rfl rfl ?_ ?_
        · refine ot_call hb_53 rfl (callOk fun w hh => cloneB_c A l.length c (fcat bzc l) w (hh.rd0n hA) (fcat_len bz_len) bz_one (by omega)) rfl fun g48 _ => ⟨.inr fun _ h => h.pk [1], ?_⟩
          obtain ⟨A48, k48⟩ := g48
          dsimp only
          refine GD.step (i := 4) (by kernel_rfl) rfl (ot_buildSlice ei_46 rfl rfl rfl rfl rfl rfl fun b51 => ⟨.inr fun _ h => h.pk [2], ?_⟩)
          refine GD.st (Fs' := _) (fun w9 h => by
            have h := h.sel [5, 4, 3, 2, 0, 1] rfl rfl
            have h := St.grp (Gs := [_, _]) h
            exact h) ?_
          refine GD.step (i := 5) (by kernel_rfl) rfl (ot_call hb_54 rfl (callOkM (k := 0) rfl fun w S hh hA hb => ins_c A48 k48 l.length (lbn (nms l) q.2.1) b51 (fcat bzc l) (bzc (q.2.1, q.2.2.1, g27, nser q.1 (atN l q.2.1).2.2.2)) w S hA hb rfl rfl bz_one (by have := lbn_le (nms l) q.2.1; rw [nms_len] at this; exact this) (by omega)) rfl fun g52 h52 => ⟨.inr fun _ h => h.pk [1], ?_⟩)
          obtain ⟨A52, k52⟩ := g52
          dsimp only at h52 ⊢
          refine GD.pure1 (i := 6) rfl (fun _ _ => rv_assign rfl) ?_
          refine GD.pure1 (i := 7) rfl (fun _ _ => rv_assign rfl) ?_
          refine GD.done (by kernel_rfl) ?_
          refine GX.then ?_
          refine GC.ret ?_
          have hil : (insZ l (q.2.1, q.2.2.1, g27, nser q.1 (atN l q.2.1).2.2.2)).length = l.length + 1 := by
            rw [← ins_ins hsrt (b := (q.2.1, q.2.2.1, g27, nser q.1 (atN l q.2.1).2.2.2)) c34]
            have := lbn_le (nms l) q.2.1
            rw [nms_len] at this
            simp only [List.length_append, List.length_take, List.length_cons, List.length_drop]; omega
          refine GX.ret2 rfl (RR.tmp rfl) (RR.tmp rfl) ?_
          exact fun w9 h => ⟨(((A52, k52), insZ l (q.2.1, q.2.2.1, g27, nser q.1 (atN l q.2.1).2.2.2)), [(A52, fcat bzc (insZ l (q.2.1, q.2.2.1, g27, nser q.1 (atN l q.2.1).2.2.2)))] ++ [(g27.1, byts q.2.2.1)]), (by rw [hd.1, hil]), by
              have h := h.sel [2, 0] rfl rfl
              have h := h.rowFrz (k := 0) rfl
              have h := h.roFrz (k := 1) rfl
              have h := h.frzNAdd
              rw [← ins_ins hsrt (b := (q.2.1, q.2.2.1, g27, nser q.1 (atN l q.2.1).2.2.2)) c34, fcat_app, fcat_cons, ← fcat_take bz_len, ← fcat_drop bz_len]
              exact h, ⟨by rw [hd.2]; exact (insZ_pl _ _).trans (congrArg (insB _) (nb_atN hsrt g27)), Sbs_ins (e0 := ((A, c), l)) (fun x hx => insZ_mem hx) hfl (List.mem_cons_self ..) (.inl (List.mem_cons_of_mem _ (List.mem_singleton.2 rfl))), ⟨fun x hx => (insZ_mem hx).elim (hok.1 x) (fun e => e ▸ ⟨hq.1, h27⟩), by dsimp only; omega, by dsimp only; omega⟩⟩⟩
        · refine ot_buildSlice ei_46 rfl rfl rfl rfl rfl rfl fun b51 => ⟨.inr fun _ h => h.pk [1], ?_⟩
          refine GD.step (i := 1) (by kernel_rfl) rfl (ot_call hb_53 rfl (callOk fun w hh => cloneB_c A l.length c (fcat bzc l) w (hh.rd0n hA) (fcat_len bz_len) bz_one (by omega)) rfl fun g48 _ => ⟨.inr fun _ h => h.pk [2], ?_⟩)
          obtain ⟨A48, k48⟩ := g48
          dsimp only
          refine GD.st (Fs' := _) (fun w9 h => by
            have h := h.sel [5, 4, 3, 2, 1, 0] rfl rfl
            have h := St.grp (Gs := [_, _]) h
            exact h) ?_
          refine GD.step (i := 5) (by kernel_rfl) rfl (ot_call hb_54 rfl (callOkM (k := 0) rfl fun w S hh hA hb => ins_c A48 k48 l.length (lbn (nms l) q.2.1) b51 (fcat bzc l) (bzc (q.2.1, q.2.2.1, g27, nser q.1 (atN l q.2.1).2.2.2)) w S hA hb rfl rfl bz_one (by have := lbn_le (nms l) q.2.1; rw [nms_len] at this; exact this) (by omega)) rfl fun g52 h52 => ⟨.inr fun _ h => h.pk [1], ?_⟩)
          obtain ⟨A52, k52⟩ := g52
          dsimp only at h52 ⊢
          refine GD.pure1 (i := 6) rfl (fun _ _ => rv_assign rfl) ?_
          refine GD.pure1 (i := 7) rfl (fun _ _ => rv_assign rfl) ?_
          refine GD.done (by kernel_rfl) ?_
          refine GX.then ?_
          refine GC.ret ?_
          have hil : (insZ l (q.2.1, q.2.2.1, g27, nser q.1 (atN l q.2.1).2.2.2)).length = l.length + 1 := by
            rw [← ins_ins hsrt (b := (q.2.1, q.2.2.1, g27, nser q.1 (atN l q.2.1).2.2.2)) c34]
            have := lbn_le (nms l) q.2.1
            rw [nms_len] at this
            simp only [List.length_append, List.length_take, List.length_cons, List.length_drop]; omega
          refine GX.ret2 rfl (RR.tmp rfl) (RR.tmp rfl) ?_
          exact fun w9 h => ⟨(((A52, k52), insZ l (q.2.1, q.2.2.1, g27, nser q.1 (atN l q.2.1).2.2.2)), [(A52, fcat bzc (insZ l (q.2.1, q.2.2.1, g27, nser q.1 (atN l q.2.1).2.2.2)))] ++ [(g27.1, byts q.2.2.1)]), (by rw [hd.1, hil]), by
              have h := h.sel [2, 0] rfl rfl
              have h := h.rowFrz (k := 0) rfl
              have h := h.roFrz (k := 1) rfl
              have h := h.frzNAdd
              rw [← ins_ins hsrt (b := (q.2.1, q.2.2.1, g27, nser q.1 (atN l q.2.1).2.2.2)) c34, fcat_app, fcat_cons, ← fcat_take bz_len, ← fcat_drop bz_len]
              exact h, ⟨by rw [hd.2]; exact (insZ_pl _ _).trans (congrArg (insB _) (nb_atN hsrt g27)), Sbs_ins (e0 := ((A, c), l)) (fun x hx => insZ_mem hx) hfl (List.mem_cons_self ..) (.inl (List.mem_cons_of_mem _ (List.mem_singleton.2 rfl))), ⟨fun x hx => (insZ_mem hx).elim (hok.1 x) (fun e => e ▸ ⟨hq.1, h27⟩), by dsimp only; omega, by dsimp only; omega⟩⟩⟩
end Go.Proofs.Ytkifeeiafachpaa
