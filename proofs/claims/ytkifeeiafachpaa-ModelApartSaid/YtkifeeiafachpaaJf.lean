import Derived.Test.YtkifeeiafachpaaJe
set_option linter.unusedVariables false
set_option linter.unusedSimpArgs false
namespace Go.Proofs.Ytkifeeiafachpaa
open Go Go.RowKit Go.Bz
theorem ag_23 : aggB Try.prog 23 = some false := by kernel_rfl
theorem ag_26 : aggB Try.prog 26 = some true := by kernel_rfl
theorem es_23 : elemSz Try.prog 23 = some 35 := by kernel_rfl
theorem fo_26_1 : fieldOff Try.prog 26 1 = some 1 := by kernel_rfl
theorem hb_18 : hasBody Try.prog 18 = true := by kernel_rfl
theorem hb_39 : hasBody Try.prog 39 = true := by kernel_rfl
theorem hb_43 : hasBody Try.prog 43 = true := by kernel_rfl
theorem hb_56 : hasBody Try.prog 56 = true := by kernel_rfl
theorem hb_57 : hasBody Try.prog 57 = true := by kernel_rfl
theorem sz_26 : (Try.prog.info? 26).map (·.size) = some 3 := by kernel_rfl
set_option maxRecDepth 100000 in
set_option maxHeartbeats 1000000 in
theorem rdone_c (A : Option Addr) (c : Nat) (l : List BindZ) (q : ReqZ) (w : World) (hR : Has w (efx ((A, c), l))) (hok : eOk ((A, c), l)) (hr : rightL (l.map bpl)) (hQ : Has w [rfx q]) (hq : qOk q) : Calls Try.prog 45 [.slice A l.length c, .agg (qzc q).toArray].toArray w fun e w' => ∃ g : EpZ × List Fact, e = .returned (.tuple #[.slice g.1.1.1 g.1.2.length g.1.1.2, .int .i64 (dnE (l.map bpl) (rpl q))]) ∧ St noB w w' [frzN g.2] ∧ (epl g.1 = dnL (l.map bpl) (rpl q) ∧ Sbs (efx g.1) g.2 (rfx q :: efx ((A, c), l)) ∧ eOk g.1) := by
  refine GC.calls Try.func45 rfl rfl (St.begin _) ?_
  have hsrt : Srt (nms l) := sortP_iff.1 hr.2.1
  have hn : l.length ≤ 256 := by have := hr.2.2; rwa [List.length_map] at this
  have hA : SlR w A (fcat bzc l) := hR _ (efx_hd _)
  have hql : (qzc q).length = 35 := qc_len hq.2.2.2
  obtain ⟨E, hE⟩ : ∃ E, nxe (fnd (l.map bpl) q.2.1) (rpl q) = E := ⟨_, rfl⟩
  have hfl : ∀ x ∈ l, bfx x ∈ rfx q :: efx ((A, c), l) := fun x hx => List.mem_cons_of_mem _ (efx_b (e := ((A, c), l)) hx)
  obtain ⟨hz1, hz2, hz3, hz4⟩ := rb_facts (z := ((fdZ l q.2.1).getD bz0)) hR hok hr fdZ_mem
  have hsm : (fnd (l.map bpl) (rpl q).2.1).isSome = (fdZ l q.2.1).isSome := by rw [show (rpl q).2.1 = q.2.1 from rfl, fdZ_pl, Option.isSome_map]
  refine GC.seq ?_
  refine GC.reg ?_
  refine GL.step (ot_box rfl rfl rfl fun b3 => ?_)
  refine GL.val (rv_assign rfl) rfl ?_
  refine GL.val (rv_assign rfl) rfl ?_
  refine GL.nil ?_
  refine GX.then ?_
  refine GC.seq ?_
  refine GC.reg ?_
  refine GL.val (rv_move rfl) rfl ?_
  refine GL.val (rv_field fo_31_1 rfl rfl) rfl ?_
  refine GL.val (rv_load ag_9 rfl (Hd.cell (k := 0) rfl rfl)) rfl ?_
  refine GL.step (ot_call hb_18 rfl (callOk fun w hh => find_c A c l q.2.1 w (hh.rd0n hA) (by omega)) rfl fun _ _ => ?_)
  refine GL.val (rv_move rfl) rfl ?_
  refine GL.val (rv_extract rfl rfl) rfl ?_
  refine GL.val (rv_extract rfl rfl) rfl ?_
  refine GL.step (ot_alloc (zs := [.string ByteArray.empty, .slice none 0 0, .int .u64 0]) zb_49 rfl rfl fun b6 => ?_)
  refine GL.step (ot_store (k := 0) rfl rfl rfl rfl sz_49 rfl rfl (show repl _ 0 (bzc ((fdZ l q.2.1).getD bz0)) = bzc ((fdZ l q.2.1).getD bz0) from rfl) ?_)
  refine GL.val (rv_assign rfl) rfl ?_
  refine GL.nil ?_
  refine GX.then ?_
  refine GC.seq ?_
  refine GC.reg ?_
  refine GL.val (rv_loadA ag_49 rfl (Hd.cells (k := 0) rfl (us := bzc ((fdZ l q.2.1).getD bz0)) rfl) (by exact sz_49)) rfl ?_
  refine GL.val (rv_move rfl) rfl ?_
  refine GL.val (rv_loadAL ag_31 rfl (by exact Hd.cellsAll (k := 1) rfl) (by exact sz_31) (by (first | exact hql | rfl))) rfl ?_
  refine GL.step (ot_call hb_56 rfl (callOk fun w hh => rnextZ_c (fdZ l q.2.1).isSome ((fdZ l q.2.1).getD bz0) q E (nx_fd.trans hE) w (hh.rd0n hz1) hz2 (by omega) (hQ.lift hh) hq) rfl fun _ _ => ?_)
  refine GL.val (rv_move rfl) rfl ?_
  refine GL.val (rv_extract rfl rfl) rfl ?_
  refine GL.val (rv_extract rfl rfl) rfl ?_
  refine GL.step (ot_alloc (zs := [.string ByteArray.empty, .slice none 0 0, .int .u64 0]) zb_49 rfl rfl fun b8 => ?_)
  refine GL.step (ot_store (k := 0) rfl rfl rfl rfl sz_49 rfl rfl (by rfl) ?_)
  refine GL.val (rv_assign rfl) rfl ?_
  refine GL.nil ?_
  refine GX.then ?_
  refine GC.seq ?_
  refine GC.seq ?_
  refine GC.reg ?_
  refine GL.val (rv_move rfl) rfl ?_
  refine GL.val (rv_neI rfl rfl) rfl ?_
  refine GL.nil ?_
  refine GX.then ?_
  refine GC.condP rfl (fun c25 => ?_) (fun c25 => ?_)
  · have hd := dn_err (q := rpl q) hE c25
    refine GC.seq ?_
    refine GC.reg ?_
    refine GL.val (rv_move rfl) rfl ?_
    refine GL.val (rv_assign rfl) rfl ?_
    refine GL.val (rv_assign rfl) rfl ?_
    refine GL.nil ?_
    refine GX.then ?_
    refine GC.ret ?_
    refine GX.then_ret ?_
    refine GX.ret2 rfl (RR.tmp rfl) (RR.tmp rfl) ?_
    exact fun w9 h => ⟨(((none, 0), []), []), (by rw [hd.1]; rfl), by
        have h := h.sel [] rfl rfl
        have h := (h.take 0).frzN0
        exact h, ⟨hd.2.symm ▸ rfl, Sbs.cons (.inl rfl) (Sbs.nil _ _), ⟨fun b hb => (by cases hb), Nat.zero_le _, Nat.le_refl _⟩⟩⟩
  · obtain rfl : E = 0 := Decidable.byContradiction c25
    simp only [rn_0, rk_0, rs_0, rg_0]
    refine GC.skip ?_
    refine GX.then ?_
    refine GC.seq ?_
    refine GC.seq ?_
    refine GC.cutq (γ := Unit) [8, 0] [2, 1, 0] (fun g Lk => (33, .bool (decide ((fdZ l q.2.1).isSome = false ∧ 256 ≤ l.length))) :: Lk) (fun g Fk => Fk) (fun g => True) rfl rfl ?_ (fun _ _ => ?_)
    · rcases (by cases (fdZ l q.2.1).isSome <;> simp; omega : (fdZ l q.2.1).isSome = true ∨ ((fdZ l q.2.1).isSome = false ∧ 256 ≤ l.length) ∨ ((fdZ l q.2.1).isSome = false ∧ l.length < 256)) with h | h | h
      · rw [show decide ((fdZ l q.2.1).isSome = false ∧ 256 ≤ l.length) = false from decide_eq_false (fun k => by rw [h] at k; cases k.1), h]
        refine GC.reg ?_
        refine GL.val (rv_move rfl) rfl ?_
        refine GL.val (rv_not rfl) rfl ?_
        refine GL.val (rv_move rfl) rfl ?_
        refine GL.skipG rfl rfl ?_
        refine GL.skipG rfl rfl ?_
        refine GL.skipG rfl rfl ?_
        refine GL.val ((by exact rv_andF rfl rfl rfl)) rfl ?_
        refine GL.nil ?_
        exact GX.cutq () trivial (by repeat (first | exact Sub.nil | refine Sub.cons rfl ?_)) (fun w9 h => by
            exact h)
      · obtain ⟨h1, h2⟩ := h
        rw [show decide ((fdZ l q.2.1).isSome = false ∧ 256 ≤ l.length) = true from decide_eq_true ⟨h1, h2⟩, h1]
        refine GC.reg ?_
        refine GL.val (rv_move rfl) rfl ?_
        refine GL.val (rv_not rfl) rfl ?_
        refine GL.val (rv_move rfl) rfl ?_
        refine GL.valT rfl (rv_move rfl) rfl ?_
        refine GL.valT rfl (rv_lenSl Try.underlying46 rfl) rfl ?_
        refine GL.valT rfl ((by exact rv_to (v' := .bool true) (rv_geq rfl rfl) (congrArg Value.bool (decide_eq_true (by omega))))) rfl ?_
        refine GL.val ((by exact rv_andT rfl rfl rfl)) rfl ?_
        refine GL.nil ?_
        exact GX.cutq () trivial (by repeat (first | exact Sub.nil | refine Sub.cons rfl ?_)) (fun w9 h => by
            exact h)
      · obtain ⟨h1, h2⟩ := h
        rw [show decide ((fdZ l q.2.1).isSome = false ∧ 256 ≤ l.length) = false from decide_eq_false (fun k => by omega), h1]
        refine GC.reg ?_
        refine GL.val (rv_move rfl) rfl ?_
        refine GL.val (rv_not rfl) rfl ?_
        refine GL.val (rv_move rfl) rfl ?_
        refine GL.valT rfl (rv_move rfl) rfl ?_
        refine GL.valT rfl (rv_lenSl Try.underlying46 rfl) rfl ?_
        refine GL.valT rfl ((by exact rv_to (v' := .bool false) (rv_geq rfl rfl) (congrArg Value.bool (decide_eq_false (by omega))))) rfl ?_
        refine GL.val ((by exact rv_andT rfl rfl rfl)) rfl ?_
        refine GL.nil ?_
        exact GX.cutq () trivial (by repeat (first | exact Sub.nil | refine Sub.cons rfl ?_)) (fun w9 h => by
            exact h)
    refine GX.then ?_
    refine GC.condP rfl (fun c33 => ?_) (fun c33 => ?_)
    · have hd := dn_full (q := rpl q) hE (by rw [hsm]; exact c33.1) (by rw [List.length_map]; exact c33.2)
      refine GC.seq ?_
      refine GC.reg ?_
      refine GL.val (rv_assign rfl) rfl ?_
      refine GL.val (rv_assign rfl) rfl ?_
      refine GL.nil ?_
      refine GX.then ?_
      refine GC.ret ?_
      refine GX.then_ret ?_
      refine GX.ret2 rfl (RR.tmp rfl) (RR.tmp rfl) ?_
      exact fun w9 h => ⟨(((none, 0), []), []), (by rw [hd.1]; rfl), by
          have h := h.sel [] rfl rfl
          have h := (h.take 0).frzN0
          exact h, ⟨hd.2.symm ▸ rfl, Sbs.cons (.inl rfl) (Sbs.nil _ _), ⟨fun b hb => (by cases hb), Nat.zero_le _, Nat.le_refl _⟩⟩⟩
    · have hd := dn_ok (q := rpl q) hE (by rw [hsm, List.length_map]; cases hs : (fdZ l q.2.1).isSome; exact .inr (Nat.lt_of_not_le fun k => c33 ⟨hs, k⟩); exact .inl rfl)
      refine GC.skip ?_
      refine GX.then ?_
      refine GC.seq ?_
      refine GC.reg ?_
      refine GL.val (rv_move rfl) rfl ?_
      refine GL.val (rv_loadAL ag_49 rfl (by exact Hd.cellsAll (k := 0) rfl) (by exact sz_49) (by (first | exact hql | rfl))) rfl ?_
      refine GL.step (ot_call hb_57 rfl (callOk fun w hh => put_c A c l (q.2.1, q.2.2.1, q.2.2.2.1, nser q.1 ((fdZ l q.2.1).getD bz0).2.2.2) w (hh.rd0n hA) hsrt (by omega)) rfl fun g36 h36 => ?_)
      refine GL.val (rv_assign rfl) rfl ?_
      refine GL.val (rv_assign rfl) rfl ?_
      refine GL.nil ?_
      refine GX.then ?_
      refine GC.ret ?_
      refine GX.ret2 rfl (RR.tmp rfl) (RR.tmp rfl) ?_
      exact fun w9 h => ⟨((g36, insZ l (q.2.1, q.2.2.1, q.2.2.2.1, nser q.1 ((fdZ l q.2.1).getD bz0).2.2.2)), [(g36.1, fcat bzc (insZ l (q.2.1, q.2.2.1, q.2.2.2.1, nser q.1 ((fdZ l q.2.1).getD bz0).2.2.2)))]), (by rw [hd.1]), by
          have h := h.sel [0] rfl rfl
          exact h, ⟨by rw [hd.2]; exact (insZ_pl _ _).trans (congrArg (insB _) (nb_fd _)), Sbs_ins (e0 := ((A, c), l)) (nb := (q.2.1, q.2.2.1, q.2.2.2.1, nser q.1 ((fdZ l q.2.1).getD bz0).2.2.2)) (fun x hx => insZ_mem hx) hfl (List.mem_cons_self ..) (.inr (List.mem_cons_self ..)), ⟨fun x hx => (insZ_mem hx).elim (hok.1 x) (fun e => e ▸ ⟨hq.1, hq.2.1⟩), by have := insZ_len_le (l := l) (b := (q.2.1, q.2.2.1, q.2.2.2.1, nser q.1 ((fdZ l q.2.1).getD bz0).2.2.2)); dsimp only; omega, h36⟩⟩⟩
theorem wt_cons {l : List Bd} {q : Rq} {qs : List Rq} (h : dnE l q = 0) : wt l (q :: qs) = wt (dnL l q) qs := by
  conv => lhs; unfold wt
  rw [if_neg (by rw [h]; decide)]
theorem wt_err {l : List Bd} {q : Rq} {qs : List Rq} (h : dnE l q ≠ 0) : wt l (q :: qs) = (dnE l q, []) := by
  conv => lhs; unfold wt
  rw [if_pos h]
theorem drop_rpl {qs : List ReqZ} {j : Nat} (h : j < qs.length) : (qs.map rpl).drop j = rpl qs[j] :: (qs.map rpl).drop (j + 1) := by
  rw [List.drop_eq_getElem_cons (by rw [List.length_map]; exact h), List.getElem_map]
theorem has_q {w : World} {d : DirZ} {q : ReqZ} (hD : Has w (dfx d)) (h : q ∈ d.2.1.2) : Has w [rfx q] := fun f hf => by
  obtain rfl := List.mem_singleton.1 hf; exact hD _ (dfx_r h)
theorem sb_q {d : DirZ} {q : ReqZ} {z : EpZ} {F : List Fact} (h : q ∈ d.2.1.2) (k : Sbs (efx z) F (dfx d)) : Sbs (rfx q :: efx z) F (dfx d) := Sbs.cons (.inr (.inr (dfx_r h))) k
theorem lastZ_right {d : DirZ} (h : ∀ e ∈ d.1.2, rightL (epl e)) : rightL (epl (lastZ d)) := by
  rcases lastZ_mem d with k | k
  · exact h _ k
  · rw [k]; exact ⟨fun b hb => (by cases hb), List.Pairwise.nil, Nat.zero_le _⟩
set_option maxRecDepth 100000 in
set_option maxHeartbeats 1000000 in
theorem wait_c (d : DirZ) (w : World) (hD : Has w (dfx d)) (hok : dOk d) (hrt : ∀ e ∈ d.1.2, rightL (epl e)) : Calls Try.prog 26 [.agg (dcell d).toArray].toArray w fun e w' => ∃ g : EpZ × List Fact, e = .returned (.tuple #[.slice g.1.1.1 g.1.2.length g.1.1.2, .int .i64 (wt (lastL (dpl d).1) (dpl d).2.1).1]) ∧ St noB w w' [frzN g.2] ∧ (epl g.1 = (wt (lastL (dpl d).1) (dpl d).2.1).2 ∧ Sbs (efx g.1) g.2 (dfx d) ∧ eOk g.1) := by
  refine GC.calls Try.func26 rfl rfl (St.begin _) ?_
  refine GC.seq ?_
  refine GC.reg ?_
  refine GL.step (ot_box rfl rfl rfl fun b1 => ?_)
  refine GL.val (rv_assign rfl) rfl ?_
  refine GL.val (rv_assign rfl) rfl ?_
  refine GL.nil ?_
  refine GX.then ?_
  refine GC.seq ?_
  refine GC.reg ?_
  refine GL.val (rv_loadA ag_26 rfl (Hd.cellsAll (k := 0) rfl) (by exact sz_26)) rfl ?_
  refine GL.step (ot_call hb_43 rfl (callOk fun w hh => last_c d w (hD.lift hh) hok) rfl fun _ _ => ?_)
  refine GL.val (rv_assign rfl) rfl ?_
  refine GL.nil ?_
  refine GX.then ?_
  refine GC.seq ?_
  refine GC.seq ?_
  refine GC.reg ?_
  refine GL.val (rv_field fo_26_1 rfl rfl) rfl ?_
  refine GL.val (rv_load ag_23 rfl (Hd.cell (k := 0) rfl rfl)) rfl ?_
  refine GL.val (rv_lenSl Try.underlying23 rfl) rfl ?_
  refine GL.val (rv_move rfl) rfl ?_
  refine GL.nil ?_
  refine GX.then ?_
  refine GC.block ?_
  refine GC.loopK (γ := Nat × EpZ × List Fact) [13, 12] [0] (fun g Lk => (4, .slice g.2.1.1.1 g.2.1.2.length g.2.1.1.2) :: (14, .int .i64 (g.1 : Int)) :: Lk) (fun g Fk => frzN g.2.2 :: Fk) (fun g => (g.1 ≤ d.2.1.2.length) ∧ ((wt (lastL (dpl d).1) (dpl d).2.1) = wt (epl g.2.1) ((dpl d).2.1.drop g.1)) ∧ (rightL (epl g.2.1)) ∧ (Sbs (efx g.2.1) g.2.2 (dfx d)) ∧ (eOk g.2.1)) (fun g => d.2.1.2.length - g.1) (0, lastZ d, []) rfl rfl ⟨Nat.zero_le _, by rw [lastZ_pl]; rfl, lastZ_right hrt, lastZ_fx d, lastZ_ok hok⟩ (by repeat (first | exact Sub.nil | refine Sub.cons rfl ?_)) (fun w9 h => by
      have h := h.frzN0
      exact h) (fun ⟨j, z, F⟩ ⟨hj, hw, hr, hs, ho⟩ => ?_)
  dsimp only at hj hw hr hs ho ⊢
  refine GC.seq ?_
  refine GC.reg ?_
  refine GL.val (rv_lss rfl rfl) rfl ?_
  refine GL.nil ?_
  refine GX.then ?_
  refine GC.seq ?_
  refine GC.condP rfl (fun c15 => ?_) (fun c15 => ?_)
  · have hlt : j < d.2.1.2.length := by omega
    have hqlim := hok.2.2.2
    have hqm : d.2.1.2[j] ∈ d.2.1.2 := List.getElem_mem _
    have hqo := hok.2.1 _ hqm
    have hql : (qzc d.2.1.2[j]).length = 35 := qc_len hqo.2.2.2
    obtain ⟨bq, oq, hAq, hCq⟩ := slr_some (hD _ (dfx_q d)) (fcat_ne (qz_len hok.2.1) (by decide) hlt)
    refine GC.skip ?_
    refine GX.then ?_
    refine GC.seq ?_
    refine GC.block ?_
    refine GC.seq ?_
    refine GC.reg ?_
    refine GL.val ((by first | exact rv_elemJ (q := oq + (j) * 35) (j) es_23 (by rw [hAq]; rfl) rfl rfl hlt rfl)) rfl ?_
    refine GL.val (rv_loadAL ag_31 rfl (Hd.cells0 (hCq.fcat (qz_len hok.2.1) (j) hlt) (fun h => h)) (by exact sz_31) hql) rfl ?_
    refine GL.step (ot_alloc (zs := [.int .i64 0, .string ByteArray.empty, .slice none 0 0, .int .u8 0, .int .u8 0, .int .u8 0, .int .u8 0, .int .u8 0, .int .u8 0, .int .u8 0, .int .u8 0, .int .u8 0, .int .u8 0, .int .u8 0, .int .u8 0, .int .u8 0, .int .u8 0, .int .u8 0, .int .u8 0, .int .u8 0, .int .u8 0, .int .u8 0, .int .u8 0, .int .u8 0, .int .u8 0, .int .u8 0, .int .u8 0, .int .u8 0, .int .u8 0, .int .u8 0, .int .u8 0, .int .u8 0, .int .u8 0, .int .u8 0, .int .u8 0]) zb_31 rfl rfl fun b6 => ?_)
    refine GL.step (ot_storeA (k := 0) rfl rfl rfl rfl (by exact sz_31) hql rfl qc_one ?_)
    refine GL.nil ?_
    refine GX.then ?_
    refine GC.seq ?_
    refine GC.reg ?_
    refine GL.val (rv_move rfl) rfl ?_
    refine GL.val (rv_loadAL ag_31 rfl (by exact Hd.cellsAll (k := 0) rfl) (by exact sz_31) (by (first | exact hql | rfl))) rfl ?_
    refine GL.step (ot_call hb_39 rfl (callOk fun w hh => done_c z.1.1 z.1.2 z.2 d.2.1.2[j] w (hs.has hh (k := 1) rfl hD) ho hr ((has_q hD hqm).lift hh) hqo) rfl fun g21 h21 => ?_)
    refine GL.val (rv_move rfl) rfl ?_
    refine GL.val (rv_extract rfl rfl) rfl ?_
    refine GL.val (rv_extract rfl rfl) rfl ?_
    refine GL.val (rv_assign rfl) rfl ?_
    refine GL.val (rv_assign rfl) rfl ?_
    refine GL.nil ?_
    refine GX.then ?_
    refine GC.seq ?_
    refine GC.seq ?_
    refine GC.reg ?_
    refine GL.val (rv_move rfl) rfl ?_
    refine GL.val (rv_neI rfl rfl) rfl ?_
    refine GL.nil ?_
    refine GX.then ?_
    refine GC.condP rfl (fun c25 => ?_) (fun c25 => ?_)
    · have hwe : (wt (lastL (dpl d).1) (dpl d).2.1) = (dnE (z.2.map bpl) (rpl d.2.1.2[j]), []) := by rw [hw, show (dpl d).2.1 = d.2.1.2.map rpl from rfl, drop_rpl hlt]; exact wt_err c25
      refine GC.seq ?_
      refine GC.reg ?_
      refine GL.val (rv_move rfl) rfl ?_
      refine GL.val (rv_assign rfl) rfl ?_
      refine GL.val (rv_assign rfl) rfl ?_
      refine GL.nil ?_
      refine GX.then ?_
      refine GC.ret ?_
      refine GX.then_ret ?_
      refine GX.blk_ret ?_
      refine GX.then_ret ?_
      refine GX.then_ret ?_
      refine GX.blk_ret ?_
      refine GX.then_ret ?_
      refine GX.ret2 rfl (RR.tmp rfl) (RR.tmp rfl) ?_
      exact fun w9 h => ⟨(((none, 0), []), []), (by rw [hwe]; rfl), by
          have h := h.sel [] rfl rfl
          have h := (h.take 0).frzN0
          exact h, ⟨by rw [hwe]; rfl, Sbs.cons (.inl rfl) (Sbs.nil _ _), ⟨fun b hb => (by cases hb), Nat.zero_le _, Nat.le_refl _⟩⟩⟩
    · have hd0 : dnE (epl z) (rpl d.2.1.2[j]) = 0 := Decidable.byContradiction c25
      refine GC.skip ?_
      refine GX.then ?_
      refine GC.reg ?_
      refine GL.val (rv_move rfl) rfl ?_
      refine GL.val (rv_assign rfl) rfl ?_
      refine GL.nil ?_
      refine GX.blk ?_
      refine GX.then ?_
      refine GC.reg ?_
      refine GL.val (rv_add rfl rfl (by omega) (by omega)) rfl ?_
      refine GL.val (rv_move rfl) rfl ?_
      refine GL.nil ?_
      obtain ⟨hp, hsb, hoo⟩ := h21
      change epl g21.1 = dnL (epl z) _ at hp
      exact GX.round (j + 1, g21.1, g21.2 ++ F) (by dsimp only; omega) ⟨by dsimp only; omega, by rw [hw, show (dpl d).2.1 = d.2.1.2.map rpl from rfl, drop_rpl hlt, wt_cons hd0, ← hp], by rw [hp]; exact dn_right hr hd0, hsb.trans (sb_q hqm hs), hoo⟩ (by repeat (first | exact Sub.nil | refine Sub.cons rfl ?_)) (fun w9 h => by
          have h := h.sel [3, 2, 0] rfl rfl
          have h := h.frzNAdd
          exact h)
  · have hjj : j = d.2.1.2.length := by omega
    have hwe : (wt (lastL (dpl d).1) (dpl d).2.1) = (0, epl z) := by rw [hw, List.drop_of_length_le (by rw [show (dpl d).2.1 = d.2.1.2.map rpl from rfl, List.length_map]; omega)]; rfl
    refine GC.exit ?_
    refine GX.then_exit ?_
    refine GX.then_exit ?_
    refine GX.blk_eq ?_
    refine GX.then ?_
    refine GC.seq ?_
    refine GC.reg ?_
    refine GL.val (rv_move rfl) rfl ?_
    refine GL.val (rv_assign rfl) rfl ?_
    refine GL.val (rv_assign rfl) rfl ?_
    refine GL.nil ?_
    refine GX.then ?_
    refine GC.ret ?_
    refine GX.ret2 rfl (RR.tmp rfl) (RR.tmp rfl) ?_
    exact fun w9 h => ⟨(z, F), (by rw [hwe]), by
        have h := h.sel [0] rfl rfl
        exact h, ⟨by rw [hwe], hs, ho⟩⟩
end Go.Proofs.Ytkifeeiafachpaa
