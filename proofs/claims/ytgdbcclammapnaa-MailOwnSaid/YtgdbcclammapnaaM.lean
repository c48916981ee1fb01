import Derived.Test.YtgdbcclammapnaaK
import Derived.Test.YtgdbcclammapnaaAr
set_option linter.unusedVariables false
set_option linter.unusedSimpArgs false
namespace Go.Proofs.Ytgdbcclammapnaa
open Go Go.RowKit Go.Bz
theorem ag_5 : aggB Try.prog 5 = some false := by kernel_rfl
theorem es_23 : elemSz Try.prog 23 = some 1 := by kernel_rfl
theorem sz_5 : (Try.prog.info? 5).map (·.size) = some 1 := by kernel_rfl
/-- a parcel's bytes, in a row of its own -/
def brow (q : Ml.Pv) : Pc := .row q.2.1 q.2.2 5 1 q.1.2.2.length (byts q.1.2.2)
def inc8 (b : List UInt8) : List UInt8 := b.map (· + 1)
/-- the same, each byte raised by one -/
def irow (q : Ml.Pv) : Pc := .row q.2.1 q.2.2 5 1 q.1.2.2.length (byts (inc8 q.1.2.2))
def jrow (q : Ml.Pv) (k : Nat) : Pc := .row q.2.1 q.2.2 5 1 q.1.2.2.length (byts (inc8 (q.1.2.2.take k) ++ q.1.2.2.drop k))
theorem inc_step (b : List UInt8) (k : Nat) (h : k < b.length) : (byts (inc8 (b.take k) ++ b.drop k)).set k (.int .u8 ((b[k] + 1).toNat : Int)) = byts (inc8 (b.take (k + 1)) ++ b.drop (k + 1)) := by
  have e : inc8 (b.take (k + 1)) ++ b.drop (k + 1) = (inc8 (b.take k) ++ b.drop k).set k (b[k] + 1) := by
    have hl : (inc8 (b.take k)).length = k := by simp [inc8]; omega
    rw [List.set_append_right _ _ (by omega), hl, Nat.sub_self, List.drop_eq_getElem_cons h, List.set_cons_zero, Ml.take_succ' b k h]
    unfold inc8
    rw [List.map_append, List.append_assoc]; rfl
  rw [e]; simp [byts, List.map_set]
theorem inc_get (b : List UInt8) (k : Nat) (h : k < b.length) : (byts (inc8 (b.take k) ++ b.drop k))[k]? = some (.int .u8 (b[k].toNat : Int)) := by
  have hl : (inc8 (b.take k)).length = k := by simp [inc8]; omega
  have e : (inc8 (b.take k) ++ b.drop k)[k]? = some b[k] := by rw [List.getElem?_append_right (by omega), hl, Nat.sub_self, List.drop_eq_getElem_cons h]; rfl
  unfold byts
  rw [List.getElem?_map, e]; rfl
theorem inc_len (b : List UInt8) (k : Nat) (h : k ≤ b.length) : (byts (inc8 (b.take k) ++ b.drop k)).length = b.length := by
  simp [byts, inc8]; omega
theorem rv_inc8 {P : Program} {K : Nat → Prop} {w0 : World} {n : Nat} {L : List (Nat × Value)} {Fs : List Pc} {x : Operand} {t t' ty : TypeId} {a : UInt8} (ex : ev L x = some (.int .u8 (a.toNat : Int))) : RV P K w0 n L Fs (.binOp .add t x (.const (.int .u8 1)) t') ty (.int .u8 ((a + 1).toNat : Int)) :=
  rv_bin ex rfl fun w => by
    have e : IntKind.wrap .u8 ((a.toNat : Int) + 1) = ((a + 1).toNat : Int) := by
      have h : (2 : Int) ^ 8 = 256 := by decide
      have h2 : IntKind.wrap .u8 ((a.toNat : Int) + 1) = ((a.toNat : Int) + 1) % 256 := by simp [IntKind.wrap, IntKind.bits, IntKind.signed, h]
      rw [h2, UInt8.toNat_add]; rfl
    simp [eqGuard, binOp, Op.intArith, e, go_sem]
theorem brow_mem {qs : List Ml.Pv} {q : Ml.Pv} (h : q ∈ qs) : Pc.row q.2.1 q.2.2 5 1 q.1.2.2.length (byts q.1.2.2) ∈ qs.map brow := List.mem_map_of_mem (f := brow) h
theorem own_facts {K : Nat → Prop} {w0 w : World} {Fs : List Pc} {i j n c : Nat} {A : Option Addr} {qs : List Ml.Pv} (h : Hd K w0 w Fs) (e : Fs[i]? = some (Pc.row A c 25 3 n (Ml.pcs qs))) (e' : Fs[j]? = some (grp (qs.map brow))) : ∀ f ∈ Ml.pfs A qs, SlR w f.1 f.2 := fun f hf => by
  rcases List.mem_cons.1 hf with rfl | hf
  · exact h.rowR e
  · obtain ⟨q, hq, rfl⟩ := List.mem_map.1 hf
    exact h.grpRow e' (brow_mem hq)
theorem zeroF {K : Nat → Prop} {w0 w : World} {Fs : List Pc} (h : St K w0 w Fs) : St K w0 w (grp [] :: Fs) := h.grpNil
set_option maxRecDepth 100000 in
set_option maxHeartbeats 4000000 in
theorem own_law (A : Option Addr) (n c : Nat) (ps : List Ml.Pv) (o : Ov) (w : World) (hR : ∀ f ∈ Ml.pfs A ps, SlR w f.1 f.2) (ho : SlR w o.2.2.1 (byts o.2.1.2.2)) (hl : ps.length = n)
    (hb : ∀ q ∈ ps, q.1.2.2.length ≤ 140737488351232) (hob : o.2.1.2.2.length ≤ 140737488351232) :
    Calls Try.prog 6 [.slice A n c, .agg (ocell o).toArray].toArray w fun e w' => ∃ _g : Unit, e = .returned (.bool true) ∧ St noB w w' [] ∧ True := by
  refine GC.calls Try.func6 rfl rfl (St.begin _) ?_
  subst hl
  have HA := Ml.pHead (hR (A, Ml.pcs ps) (List.mem_cons_self ..))
  have hpl := Ml.pl_len ps
  refine GC.seq ?_
  refine GC.reg ?_
  refine GL.step (ot_box rfl rfl rfl fun b3 => ?_)
  refine GL.val (rv_assign rfl) rfl ?_
  refine GL.nil ?_
  refine GX.then ?_
  refine GC.seq ?_
  refine GC.seq ?_
  refine GC.reg ?_
  refine GL.val (rv_move rfl) rfl ?_
  refine GL.val (rv_loadA ag_27 rfl (by first | exact Hd.cellsAll (k := 0) rfl | exact Hd.cells (k := 0) rfl rfl) (by exact sz_27)) rfl ?_
  refine GL.step (ot_buildSlice ei_29 rfl rfl rfl rfl rfl rfl fun b17 => ?_)
  refine GL.step (ot_call hb_7 rfl (callOk fun w hh => light_c A (some ⟨b17, 0, none⟩) _ 1 c 1 ps [o] w (hh.rd0n (hR _ (List.mem_cons_self ..))) (.inr ⟨b17, 0, rfl, Hd.cellsAll (k := 0) rfl w hh⟩) rfl rfl hb (by simpa using hob)) rfl fun blb hbl => ?_)
  refine GL.val (rv_not rfl) rfl ?_
  refine GL.nil ?_
  refine GX.then ?_
  first | refine GC.condP rfl (fun c19 => ?_) (fun c19 => ?_) | refine GC.cond rfl (fun c19 => ?_) (fun c19 => ?_)
  · refine GC.seq ?_
    refine GC.reg ?_
    refine GL.step (ot_call hb_8 rfl (callOk fun w hh => works_c w) rfl fun _ _ => ?_)
    refine GL.val (rv_assign rfl) rfl ?_
    refine GL.nil ?_
    refine GX.then ?_
    refine GC.ret ?_
    refine GX.then_ret ?_
    refine GX.ret1 rfl (RR.tmp rfl) ?_
    exact fun w9 h => ⟨(), rfl, by
        have h := h.sel [] rfl rfl
        exact h, trivial⟩
  · obtain ⟨h1, h2, h3⟩ := hbl (by simpa using c19)
    have hbs : ∀ q ∈ ps, q.1.2.2.length ≤ 100000000 := fun q hq => by have := sb_mem (l := bl ps) (x := q.1.2.2.length) (List.mem_map_of_mem (f := fun q : Ml.Pv => q.1.2.2.length) hq); omega
    have hos : o.2.1.2.2.length ≤ 100000000 := by have := sb_mem (l := ob [o]) (x := o.2.1.2.2.length) (by simp); omega
    refine GC.skip ?_
    refine GX.then ?_
    refine GC.seq ?_
    refine GC.reg ?_
    refine GL.val (rv_assign rfl) rfl ?_
    refine GL.nil ?_
    refine GX.then ?_
    refine GC.seq ?_
    refine GC.seq ?_
    refine GC.reg ?_
    refine GL.val (rv_assign rfl) rfl ?_
    refine GL.nil ?_
    refine GX.then ?_
    refine GC.block ?_
    refine GC.loopK (γ := Nat × Option Addr × Nat × List Ml.Pv) [3, 0] [1, 0] (fun g Lk => (5, .slice g.2.1 g.1 g.2.2.1) :: (6, .int .i64 (g.1 : Int)) :: Lk) (fun g Fk => .row g.2.1 g.2.2.1 25 3 g.1 (Ml.pcs g.2.2.2) :: grp (g.2.2.2.map brow) :: Fk) (fun g => (g.1 ≤ ps.length) ∧ (Ml.pl g.2.2.2 = (Ml.pl ps).take g.1)) (fun g => ps.length - g.1) (0, none, 0, []) rfl rfl ⟨Nat.zero_le _, rfl⟩ (by repeat (first | exact Sub.nil | refine Sub.cons rfl ?_)) (fun w9 h => by
        have h := (h.grpNil).nilRow 25 3
        exact h) (fun ⟨j, A5, c5, qs⟩ ⟨hj, hqs⟩ => ?_)
    dsimp only at hj hqs ⊢
    refine GC.seq ?_
    refine GC.seq ?_
    refine GC.reg ?_
    refine GL.val (rv_move rfl) rfl ?_
    refine GL.val (rv_move rfl) rfl ?_
    refine GL.val (rv_lenSl Try.underlying22 rfl) rfl ?_
    refine GL.val (rv_lss rfl rfl) rfl ?_
    refine GL.nil ?_
    refine GX.then ?_
    first | refine GC.condP rfl (fun c24 => ?_) (fun c24 => ?_) | refine GC.cond rfl (fun c24 => ?_) (fun c24 => ?_)
    · have hlt : j < ps.length := by omega
      obtain ⟨b, o', rfl, hC⟩ := HA.resolve_left (by omega)
      refine GC.skip ?_
      refine GX.then ?_
      refine GC.seq ?_
      refine GC.block ?_
      refine GC.draw 22 [] mo_ ?_
      refine GD.pure (i := 0) rfl (fun _ _ => rv_move rfl) (by kernel_rfl) (by repeat (first | exact noPanicPut_body | exact noPanicPut_cut | exact noPanicPut_cutE | refine noPanicPut_then ?_ | refine noPanicPut_blk ?_)) ?_
      refine GD.pure (i := 1) rfl (fun _ _ => rv_move rfl) (by kernel_rfl) (by repeat (first | exact noPanicPut_body | exact noPanicPut_cut | exact noPanicPut_cutE | refine noPanicPut_then ?_ | refine noPanicPut_blk ?_)) ?_
      refine GD.pure (i := 2) rfl (fun _ _ => rv_move rfl) (by kernel_rfl) (by repeat (first | exact noPanicPut_body | exact noPanicPut_cut | exact noPanicPut_cutE | refine noPanicPut_then ?_ | refine noPanicPut_blk ?_)) ?_
      refine GD.pure (i := 3) rfl (fun _ _ => rv_elem es_22 rfl rfl (by omega) (by omega)) (by kernel_rfl) (by repeat (first | exact noPanicPut_body | exact noPanicPut_cut | exact noPanicPut_cutE | refine noPanicPut_then ?_ | refine noPanicPut_blk ?_)) ?_
      refine GD.pure (i := 4) rfl (fun _ _ => rv_field fo_25_0 rfl rfl) (by kernel_rfl) (by repeat (first | exact noPanicPut_body | exact noPanicPut_cut | exact noPanicPut_cutE | refine noPanicPut_then ?_ | refine noPanicPut_blk ?_)) ?_
      refine GD.pure (i := 6) rfl (fun _ _ => rv_move rfl) (by kernel_rfl) (by repeat (first | exact noPanicPut_body | exact noPanicPut_cut | exact noPanicPut_cutE | refine noPanicPut_then ?_ | refine noPanicPut_blk ?_)) ?_
      refine GD.pure (i := 7) rfl (fun _ _ => rv_move rfl) (by kernel_rfl) (by repeat (first | exact noPanicPut_body | exact noPanicPut_cut | exact noPanicPut_cutE | refine noPanicPut_then ?_ | refine noPanicPut_blk ?_)) ?_
      refine GD.pure (i := 8) rfl (fun _ _ => rv_elem es_22 rfl rfl (by omega) (by omega)) (by kernel_rfl) (by repeat (first | exact noPanicPut_body | exact noPanicPut_cut | exact noPanicPut_cutE | refine noPanicPut_then ?_ | refine noPanicPut_blk ?_)) ?_
      refine GD.pure (i := 9) rfl (fun _ _ => rv_field fo_25_1 rfl rfl) (by kernel_rfl) (by repeat (first | exact noPanicPut_body | exact noPanicPut_cut | exact noPanicPut_cutE | refine noPanicPut_then ?_ | refine noPanicPut_blk ?_)) ?_
      refine GD.pure (i := 12) rfl (fun _ _ => rv_move rfl) (by kernel_rfl) (by repeat (first | exact noPanicPut_body | exact noPanicPut_cut | exact noPanicPut_cutE | refine noPanicPut_then ?_ | refine noPanicPut_blk ?_)) ?_
      refine GD.pure (i := 13) rfl (fun _ _ => rv_move rfl) (by kernel_rfl) (by repeat (first | exact noPanicPut_body | exact noPanicPut_cut | exact noPanicPut_cutE | refine noPanicPut_then ?_ | refine noPanicPut_blk ?_)) ?_
      refine GD.pure (i := 14) rfl (fun _ _ => rv_elem es_22 rfl rfl (by omega) (by omega)) (by kernel_rfl) (by repeat (first | exact noPanicPut_body | exact noPanicPut_cut | exact noPanicPut_cutE | refine noPanicPut_then ?_ | refine noPanicPut_blk ?_)) ?_
      refine GD.pure (i := 15) rfl (fun _ _ => rv_field fo_25_2 rfl rfl) (by kernel_rfl) (by repeat (first | exact noPanicPut_body | exact noPanicPut_cut | exact noPanicPut_cutE | refine noPanicPut_then ?_ | refine noPanicPut_blk ?_)) ?_
      refine GD.read (i := 5) rfl (rv_load ag_3 rfl (Hd.cell0 (Ml.pc0 hC hlt) (fun h => h))) (by kernel_rfl) (by repeat (first | exact noPanicPut_body | exact noPanicPut_cut | exact noPanicPut_cutE | refine noPanicPut_then ?_ | refine noPanicPut_blk ?_)) ?_
      refine GD.read (i := 10) rfl (rv_load ag_3 rfl (Hd.cell0 (Ml.pc1 hC hlt) (fun h => h))) (by kernel_rfl) (by repeat (first | exact noPanicPut_body | exact noPanicPut_cut | exact noPanicPut_cutE | refine noPanicPut_then ?_ | refine noPanicPut_blk ?_)) ?_
      refine GD.read (i := 16) rfl (rv_load ag_23 rfl (Hd.cell0 (Ml.pc2 hC hlt) (fun h => h))) (by kernel_rfl) (by repeat (first | exact noPanicPut_body | exact noPanicPut_cut | exact noPanicPut_cutE | refine noPanicPut_then ?_ | refine noPanicPut_blk ?_)) ?_
      refine GD.step (i := 11) (by kernel_rfl) rfl (ot_buildSlice ei_23 rfl rfl rfl rfl rfl rfl fun b38 => ⟨.inr fun _ h => h.pk [], ?_⟩)
      refine GD.st (Fs' := _) (fun w9 h => by
        have h := h.sel [4, 3, 2, 1, 0] rfl rfl
        have h := h.clRow (k := 0) (n' := 0) (sz := 1) rfl rfl (by omega)
        exact h) ?_
      refine GD.step (i := 17) (by kernel_rfl) rfl (ot_appendR (k := 0) (news := byts ps[j].1.2.2) ei_23 rfl rfl rfl (fun w h => h.rd0n (hR _ (Ml.bmem hlt _))) (by rw [byts_len, Nat.mul_one]) (byts_one _) (by have := hbs _ (List.getElem_mem hlt); omega) (by decide) (by decide) rfl (Nat.zero_add _) (List.nil_append _) fun A44 c44 => ⟨.inr fun _ h => h.pk [], ?_⟩)
      refine GD.pure (i := 18) rfl (fun _ _ => rv_buildS pl_25 zb_25 rfl rfl (by first | ((simp only [bldL, repl, List.set_cons_zero, List.set_cons_succ, List.getElem?_cons_zero, List.getElem?_cons_succ, Option.getD_some, Value.cells]) <;> rfl) | rfl)) (by kernel_rfl) (by repeat (first | exact noPanicPut_body | exact noPanicPut_cut | exact noPanicPut_cutE | refine noPanicPut_then ?_ | refine noPanicPut_blk ?_)) ?_
      refine GD.step (i := 19) (by kernel_rfl) rfl (ot_buildSlice ei_22 rfl rfl rfl rfl rfl rfl fun b46 => ⟨.inr fun _ h => h.pk [], ?_⟩)
      refine GD.step (i := 20) (by kernel_rfl) rfl (ot_appendR (k := 2) (news := Ml.pcell (ps[j].1, (A44, c44))) ei_22 rfl rfl rfl (fun w h => .inr ⟨b46, 0, rfl, Hd.cellsAll (k := 0) rfl w h⟩) rfl rfl (by omega) (by decide) (by decide) rfl rfl rfl fun A47 c47 => ⟨.inr fun _ h => h.pk [], ?_⟩)
      refine GD.pure (i := 21) rfl (fun _ _ => rv_assign rfl) (by kernel_rfl) (by repeat (first | exact noPanicPut_body | exact noPanicPut_cut | exact noPanicPut_cutE | refine noPanicPut_then ?_ | refine noPanicPut_blk ?_)) ?_
      refine GD.done (by kernel_rfl) ?_
      refine GX.blk ?_
      refine GX.then ?_
      refine GC.reg ?_
      refine GL.val (rv_move rfl) rfl ?_
      refine GL.val (rv_add rfl rfl (by omega) (by omega)) rfl ?_
      refine GL.val (rv_assign rfl) rfl ?_
      refine GL.nil ?_
      exact GX.round (j + 1, A47, c47, qs ++ [(ps[j].1, (A44, c44))]) (by dsimp only; omega) ⟨by show j + 1 ≤ _; omega, by dsimp only; rw [Ml.take_succ' _ j (by rw [Ml.pl_len]; exact hlt), ← hqs, Ml.pl_get ps j hlt]; simp [Ml.pl]⟩ (by repeat (first | exact Sub.nil | refine Sub.cons rfl ?_)) (fun w9 h => by
          have h := h.sel [5, 4, 2, 3, 1] rfl rfl
          have h := h.grpSnoc
          have h := h.sel [3, 2, 0, 1] rfl rfl
          dsimp only
          rw [Ml.pcs_app, List.map_append]
          simp only [Ml.pcs, List.flatMap_cons, List.flatMap_nil, List.append_nil] at h ⊢
          exact h)
    · obtain rfl : j = ps.length := by omega
      rw [List.take_of_length_le (by rw [hpl]; exact Nat.le_refl _)] at hqs
      have hqb := lenb hqs.symm hbs
      have hql : qs.length = ps.length := by rw [← Ml.pl_len qs, hqs, hpl]
      refine GC.exit ?_
      refine GX.then_exit ?_
      refine GX.then_exit ?_
      refine GX.blk_eq ?_
      refine GX.then ?_
      refine GC.seq ?_
      refine GC.cutq (γ := Nat × Option Addr × Nat) [5, 3, 0] [3, 2, 1, 0] (fun g Lk => (7, .pointer (some ⟨g.1, 0, none⟩)) :: Lk) (fun g Fk => .cl g.1 (Ml.pcell (o.2.1, (g.2.1, g.2.2))) 25 :: .row g.2.1 g.2.2 5 1 o.2.1.2.2.length (byts o.2.1.2.2) :: Fk) (fun g => True) rfl rfl ?_ (fun ⟨b7, A58, c58⟩ _ => ?_)
      · refine GC.draw 13 [3] mo_ ?_
        refine GD.pure (i := 0) rfl (fun _ _ => rv_field fo_27_2 rfl rfl) (by kernel_rfl) (by repeat (first | exact noPanicPut_body | exact noPanicPut_cut | exact noPanicPut_cutE | refine noPanicPut_then ?_ | refine noPanicPut_blk ?_)) ?_
        refine GD.pure (i := 1) rfl (fun _ _ => rv_field fo_25_0 rfl rfl) (by kernel_rfl) (by repeat (first | exact noPanicPut_body | exact noPanicPut_cut | exact noPanicPut_cutE | refine noPanicPut_then ?_ | refine noPanicPut_blk ?_)) ?_
        refine GD.pure (i := 3) rfl (fun _ _ => rv_field fo_27_2 rfl rfl) (by kernel_rfl) (by repeat (first | exact noPanicPut_body | exact noPanicPut_cut | exact noPanicPut_cutE | refine noPanicPut_then ?_ | refine noPanicPut_blk ?_)) ?_
        refine GD.pure (i := 4) rfl (fun _ _ => rv_field fo_25_1 rfl rfl) (by kernel_rfl) (by repeat (first | exact noPanicPut_body | exact noPanicPut_cut | exact noPanicPut_cutE | refine noPanicPut_then ?_ | refine noPanicPut_blk ?_)) ?_
        refine GD.pure (i := 7) rfl (fun _ _ => rv_field fo_27_2 rfl rfl) (by kernel_rfl) (by repeat (first | exact noPanicPut_body | exact noPanicPut_cut | exact noPanicPut_cutE | refine noPanicPut_then ?_ | refine noPanicPut_blk ?_)) ?_
        refine GD.pure (i := 8) rfl (fun _ _ => rv_field fo_25_2 rfl rfl) (by kernel_rfl) (by repeat (first | exact noPanicPut_body | exact noPanicPut_cut | exact noPanicPut_cutE | refine noPanicPut_then ?_ | refine noPanicPut_blk ?_)) ?_
        refine GD.read (i := 2) rfl (rv_load ag_3 rfl (by first | exact Hd.cell (k := 0) rfl rfl | exact Hd.rowCell (k := 0) rfl (by assumption))) (by kernel_rfl) (by repeat (first | exact noPanicPut_body | exact noPanicPut_cut | exact noPanicPut_cutE | refine noPanicPut_then ?_ | refine noPanicPut_blk ?_)) ?_
        refine GD.read (i := 5) rfl (rv_load ag_3 rfl (by first | exact Hd.cell (k := 0) rfl rfl | exact Hd.rowCell (k := 0) rfl (by assumption))) (by kernel_rfl) (by repeat (first | exact noPanicPut_body | exact noPanicPut_cut | exact noPanicPut_cutE | refine noPanicPut_then ?_ | refine noPanicPut_blk ?_)) ?_
        refine GD.read (i := 9) rfl (rv_load ag_23 rfl (by first | exact Hd.cell (k := 0) rfl rfl | exact Hd.rowCell (k := 0) rfl (by assumption))) (by kernel_rfl) (by repeat (first | exact noPanicPut_body | exact noPanicPut_cut | exact noPanicPut_cutE | refine noPanicPut_then ?_ | refine noPanicPut_blk ?_)) ?_
        refine GD.eachN2 (i := 6) (j := 12) (by kernel_rfl) rfl rfl ?_ ?_
        · refine ot_buildSlice ei_23 rfl rfl rfl rfl rfl rfl fun b54 => ⟨.inr fun _ h => h.pk [4], ?_⟩
          refine GD.st (Fs' := _) (fun w9 h => by
            have h := h.sel [4, 3, 2, 1, 0] rfl rfl
            have h := h.clRow (k := 0) (n' := 0) (sz := 1) rfl rfl (by omega)
            exact h) ?_
          refine GD.eachN2 (i := 10) (j := 12) (by kernel_rfl) rfl rfl ?_ ?_
          · refine ot_appendR (k := 0) (news := byts o.2.1.2.2) ei_23 rfl rfl rfl (fun w h => h.rd0n ho) (by rw [byts_len, Nat.mul_one]) (byts_one _) (by omega) (by decide) (by decide) rfl (Nat.zero_add _) (List.nil_append _) fun A58 c58 => ⟨.inr fun _ h => h.pk [4], ?_⟩
            refine GD.pure (i := 11) rfl (fun _ _ => rv_buildS pl_25 zb_25 rfl rfl (by first | ((simp only [bldL, repl, List.set_cons_zero, List.set_cons_succ, List.getElem?_cons_zero, List.getElem?_cons_succ, Option.getD_some, Value.cells]) <;> rfl) | rfl)) (by kernel_rfl) (by repeat (first | exact noPanicPut_body | exact noPanicPut_cut | exact noPanicPut_cutE | refine noPanicPut_then ?_ | refine noPanicPut_blk ?_)) ?_
            refine GD.step (i := 12) (by kernel_rfl) rfl (ot_alloc (zs := [.int .i64 0, .int .i64 0, .slice none 0 0]) zb_25 rfl rfl fun b7 => ⟨.inr fun _ h => h.pk [5], ?_⟩)
            refine GD.step (i := 13) (by kernel_rfl) rfl (ot_store (k := 0) rfl rfl rfl rfl sz_25 rfl rfl (by first | ((simp only [repl, List.set_cons_zero, List.set_cons_succ]) <;> rfl) | rfl) ⟨.inl rfl, ?_⟩)
            refine GD.done (by kernel_rfl) ?_
            exact GX.cutq (b7, A58, c58) trivial (by repeat (first | exact Sub.nil | refine Sub.cons rfl ?_)) (fun w9 h => by
                exact h)
          · refine ot_alloc (zs := [.int .i64 0, .int .i64 0, .slice none 0 0]) zb_25 rfl rfl fun b7 => ⟨.inr fun _ h => h.pk [5], ?_⟩
            refine GD.step (i := 10) (by kernel_rfl) rfl (ot_appendR (k := 1) (news := byts o.2.1.2.2) ei_23 rfl rfl rfl (fun w h => h.rd0n ho) (by rw [byts_len, Nat.mul_one]) (byts_one _) (by omega) (by decide) (by decide) rfl (Nat.zero_add _) (List.nil_append _) fun A58 c58 => ⟨.inr fun _ h => h.pk [5], ?_⟩)
            refine GD.pure (i := 11) rfl (fun _ _ => rv_buildS pl_25 zb_25 rfl rfl (by first | ((simp only [bldL, repl, List.set_cons_zero, List.set_cons_succ, List.getElem?_cons_zero, List.getElem?_cons_succ, Option.getD_some, Value.cells]) <;> rfl) | rfl)) (by kernel_rfl) (by repeat (first | exact noPanicPut_body | exact noPanicPut_cut | exact noPanicPut_cutE | refine noPanicPut_then ?_ | refine noPanicPut_blk ?_)) ?_
            refine GD.step (i := 13) (by kernel_rfl) rfl (ot_store (k := 0) rfl rfl rfl rfl sz_25 rfl rfl (by first | ((simp only [repl, List.set_cons_zero, List.set_cons_succ]) <;> rfl) | rfl) ⟨.inl rfl, ?_⟩)
            refine GD.done (by kernel_rfl) ?_
            exact GX.cutq (b7, A58, c58) trivial (by repeat (first | exact Sub.nil | refine Sub.cons rfl ?_)) (fun w9 h => by
                exact h)
        · refine ot_alloc (zs := [.int .i64 0, .int .i64 0, .slice none 0 0]) zb_25 rfl rfl fun b7 => ⟨.inr fun _ h => h.pk [4], ?_⟩
          refine GD.step (i := 6) (by kernel_rfl) rfl (ot_buildSlice ei_23 rfl rfl rfl rfl rfl rfl fun b54 => ⟨.inr fun _ h => h.pk [5], ?_⟩)
          refine GD.st (Fs' := _) (fun w9 h => by
            have h := h.sel [5, 4, 3, 2, 1, 0] rfl rfl
            have h := h.clRow (k := 0) (n' := 0) (sz := 1) rfl rfl (by omega)
            exact h) ?_
          refine GD.step (i := 10) (by kernel_rfl) rfl (ot_appendR (k := 0) (news := byts o.2.1.2.2) ei_23 rfl rfl rfl (fun w h => h.rd0n ho) (by rw [byts_len, Nat.mul_one]) (byts_one _) (by omega) (by decide) (by decide) rfl (Nat.zero_add _) (List.nil_append _) fun A58 c58 => ⟨.inr fun _ h => h.pk [5], ?_⟩)
          refine GD.pure (i := 11) rfl (fun _ _ => rv_buildS pl_25 zb_25 rfl rfl (by first | ((simp only [bldL, repl, List.set_cons_zero, List.set_cons_succ, List.getElem?_cons_zero, List.getElem?_cons_succ, Option.getD_some, Value.cells]) <;> rfl) | rfl)) (by kernel_rfl) (by repeat (first | exact noPanicPut_body | exact noPanicPut_cut | exact noPanicPut_cutE | refine noPanicPut_then ?_ | refine noPanicPut_blk ?_)) ?_
          refine GD.step (i := 13) (by kernel_rfl) rfl (ot_store (k := 1) rfl rfl rfl rfl sz_25 rfl rfl (by first | ((simp only [repl, List.set_cons_zero, List.set_cons_succ]) <;> rfl) | rfl) ⟨.inl rfl, ?_⟩)
          refine GD.done (by kernel_rfl) ?_
          exact GX.cutq (b7, A58, c58) trivial (by repeat (first | exact Sub.nil | refine Sub.cons rfl ?_)) (fun w9 h => by
              have h := h.sel [5, 4, 3, 2, 0, 1] rfl rfl
              exact h)
      dsimp only
      refine GX.then ?_
      refine GC.seq ?_
      refine GC.reg ?_
      refine GL.val (rv_assign rfl) rfl ?_
      refine GL.val (rv_assign rfl) rfl ?_
      refine GL.nil ?_
      refine GX.then ?_
      refine GC.seq ?_
      refine GC.reg ?_
      refine GL.val (rv_assign rfl) rfl ?_
      refine GL.val (rv_assign rfl) rfl ?_
      refine GL.nil ?_
      refine GX.then ?_
      refine GC.seq ?_
      refine GC.seq ?_
      refine GC.reg ?_
      refine GL.val (rv_field fo_27_0 rfl rfl) rfl ?_
      refine GL.val (rv_load ag_3 rfl (by first | exact Hd.cell (k := 5) rfl rfl | exact Hd.rowCell (k := 5) rfl (by assumption))) rfl ?_
      refine GL.nil ?_
      refine GX.then ?_
      refine GC.cutq (γ := Option Addr × Nat × List Ml.Pv × Option Addr × Nat × List Ml.Pv × Int) [7, 5, 0] [5, 4, 3, 2, 1, 0] (fun g Lk => (8, .slice g.1 g.2.2.1.length g.2.1) :: (9, .slice g.2.2.2.1 g.2.2.2.2.2.1.length g.2.2.2.2.1) :: (10, .int .i64 g.2.2.2.2.2.2) :: (11, .int .i64 g.2.2.2.2.2.2) :: Lk) (fun g Fk => frzN (Ml.pfs g.1 g.2.2.1) :: frzN [(g.2.2.2.1, Ml.pcs g.2.2.2.2.2.1)] :: Fk) (fun g => (Ml.pl g.2.2.1 = Ml.pl g.2.2.2.2.2.1) ∧ (∀ r ∈ g.2.2.2.2.2.1, r ∈ ps ∨ r = o.2) ∧ (g.2.2.1.length ≤ 1000000)) rfl rfl ?_ (fun ⟨Ax, cx, xs, Ay, cy, ys, z⟩ ⟨hxy, hym, hxl⟩ => ?_)
      · refine GC.block ?_
        refine GC.seq ?_
        refine GC.reg ?_
        refine GL.val (rv_eqI rfl rfl) rfl ?_
        refine GL.val (rv_assign rfl) rfl ?_
        refine GL.nil ?_
        refine GX.then ?_
        first | refine GC.condP rfl (fun c62 => ?_) (fun c62 => ?_) | refine GC.cond rfl (fun c62 => ?_) (fun c62 => ?_)
        · refine GC.seq ?_
          refine GC.reg ?_
          refine GL.val (rv_move rfl) rfl ?_
          refine GL.val (rv_loadA ag_25 rfl (by first | exact Hd.cellsAll (k := 0) rfl | exact Hd.cells (k := 0) rfl rfl) (by exact sz_25)) rfl ?_
          refine GL.step (ot_call hb_12 rfl (callOk fun w hh => send_c A5 _ c5 qs w (own_facts hh (i := 2) (j := 3) rfl rfl) hql (by omega) hqb (o.2.1, (A58, c58)) (hh.rowR (k := 1) rfl) hos) rfl fun gx hx => ?_)
          obtain ⟨⟨Ax, cx⟩, xs⟩ := gx
          dsimp only at hx
          rw [hqs] at hx ⊢
          refine GL.val (rv_move rfl) rfl ?_
          refine GL.val (rv_extract rfl rfl) rfl ?_
          refine GL.val (rv_extract rfl rfl) rfl ?_
          refine GL.val (rv_assign rfl) rfl ?_
          refine GL.val (rv_assign rfl) rfl ?_
          refine GL.nil ?_
          refine GX.then ?_
          refine GC.reg ?_
          refine GL.val (rv_move rfl) rfl ?_
          refine GL.val (rv_field fo_27_2 rfl rfl) rfl ?_
          refine GL.val (rv_loadA ag_25 rfl (Hd.cells (k := 6) (us := Ml.pcell o.2) rfl rfl) (by exact sz_25)) rfl ?_
          refine GL.step (ot_call hb_16 rfl (callOk fun w hh => rsend_c A _ c ps w (fun f hf => hh.rd0n (hR f hf)) rfl (by omega) o.2 (hh.rd0n ho) hos) rfl fun gy hy => ?_)
          obtain ⟨⟨Ay, cy⟩, ys⟩ := gy
          obtain ⟨hy, hym⟩ := hy
          dsimp only at hy hym
          refine GL.val (rv_move rfl) rfl ?_
          refine GL.val (rv_extract rfl rfl) rfl ?_
          refine GL.val (rv_extract rfl rfl) rfl ?_
          refine GL.val (rv_assign rfl) rfl ?_
          refine GL.val (rv_assign rfl) rfl ?_
          refine GL.nil ?_
          refine GX.blk ?_
          exact GX.cutq (Ax, cx, xs, Ay, cy, ys, (Ml.send (Ml.pl ps) o.2.1).2) ⟨hx.trans hy.symm, hym, by show xs.length ≤ 1000000; have h1 := send_len (Ml.pl ps) o.2.1; rw [← hx, Ml.pl_len] at h1; omega⟩ (by repeat (first | exact Sub.nil | refine Sub.cons rfl ?_)) (fun w9 h => by
              have h := h.sel [7, 6, 5, 4, 3, 2, 0, 1] rfl rfl
              exact h)
        · refine GC.seq ?_
          refine GC.reg ?_
          refine GL.val (rv_eqI rfl rfl) rfl ?_
          refine GL.val (rv_assign rfl) rfl ?_
          refine GL.nil ?_
          refine GX.then ?_
          first | refine GC.condP rfl (fun c77 => ?_) (fun c77 => ?_) | refine GC.cond rfl (fun c77 => ?_) (fun c77 => ?_)
          · refine GC.seq ?_
            refine GC.reg ?_
            refine GL.val (rv_move rfl) rfl ?_
            refine GL.val (rv_field fo_27_1 rfl rfl) rfl ?_
            refine GL.val (rv_load ag_3 rfl (by first | exact Hd.cell (k := 5) rfl rfl | exact Hd.rowCell (k := 5) rfl (by assumption))) rfl ?_
            refine GL.step (ot_call hb_13 rfl (callOk fun w hh => take_c A5 _ c5 qs w (own_facts hh (i := 2) (j := 3) rfl rfl) hql (by omega) hqb o.1.2) rfl fun gx hx => ?_)
            obtain ⟨⟨Ax, cx⟩, xs, px⟩ := gx
            obtain ⟨hx, hpx⟩ := hx
            dsimp only at hx hpx
            rw [hqs] at hx ⊢
            refine GL.val (rv_move rfl) rfl ?_
            refine GL.val (rv_extract rfl rfl) rfl ?_
            refine GL.val (rv_extract rfl rfl) rfl ?_
            refine GL.val (rv_extract rfl rfl) rfl ?_
            refine GL.val (rv_assign rfl) rfl ?_
            refine GL.val (rv_assign rfl) rfl ?_
            refine GL.nil ?_
            refine GX.then ?_
            refine GC.reg ?_
            refine GL.val (rv_move rfl) rfl ?_
            refine GL.val (rv_field fo_27_1 rfl rfl) rfl ?_
            refine GL.val (rv_load ag_3 rfl (by first | exact Hd.cell (k := 6) rfl rfl | exact Hd.rowCell (k := 6) rfl (by assumption))) rfl ?_
            refine GL.step (ot_call hb_17 rfl (callOk fun w hh => rtake_c A _ c ps w (fun f hf => hh.rd0n (hR f hf)) rfl (by omega) o.1.2) rfl fun gy hy => ?_)
            obtain ⟨⟨Ay, cy⟩, ys, py⟩ := gy
            obtain ⟨hy, _, hym, _⟩ := hy
            dsimp only at hy hym
            refine GL.val (rv_move rfl) rfl ?_
            refine GL.val (rv_extract rfl rfl) rfl ?_
            refine GL.val (rv_extract rfl rfl) rfl ?_
            refine GL.val (rv_extract rfl rfl) rfl ?_
            refine GL.val (rv_assign rfl) rfl ?_
            refine GL.val (rv_assign rfl) rfl ?_
            refine GL.nil ?_
            refine GX.blk ?_
            exact GX.cutq (Ax, cx, xs, Ay, cy, ys, (Ml.take (Ml.pl ps) o.1.2).2.2) ⟨hx.trans hy.symm, fun r hr => .inl (hym r hr), by show xs.length ≤ 1000000; have h1 := take_len (Ml.pl ps) o.1.2; rw [← hx, Ml.pl_len] at h1; omega⟩ (by repeat (first | exact Sub.nil | refine Sub.cons rfl ?_)) (fun w9 h => by
                have h := h.frzNSub (k := 1) (l' := Ml.pfs Ax xs) rfl (fun f hf => List.mem_append_left _ hf)
                have h := h.sel [7, 6, 5, 4, 3, 2, 0, 1] rfl rfl
                exact h)
          · refine GC.seq ?_
            refine GC.reg ?_
            refine GL.val (rv_eqI rfl rfl) rfl ?_
            refine GL.val (rv_assign rfl) rfl ?_
            refine GL.nil ?_
            refine GX.then ?_
            first | refine GC.condP rfl (fun c95 => ?_) (fun c95 => ?_) | refine GC.cond rfl (fun c95 => ?_) (fun c95 => ?_)
            · refine GC.seq ?_
              refine GC.reg ?_
              refine GL.val (rv_move rfl) rfl ?_
              refine GL.val (rv_field fo_27_1 rfl rfl) rfl ?_
              refine GL.val (rv_load ag_3 rfl (by first | exact Hd.cell (k := 5) rfl rfl | exact Hd.rowCell (k := 5) rfl (by assumption))) rfl ?_
              refine GL.step (ot_call hb_15 rfl (callOk fun w hh => double_c A5 _ c5 qs w (own_facts hh (i := 2) (j := 3) rfl rfl) hql (by omega) hqb o.1.2) rfl fun gx hx => ?_)
              obtain ⟨⟨Ax, cx⟩, xs⟩ := gx
              dsimp only at hx
              rw [hqs] at hx ⊢
              refine GL.val (rv_move rfl) rfl ?_
              refine GL.val (rv_extract rfl rfl) rfl ?_
              refine GL.val (rv_extract rfl rfl) rfl ?_
              refine GL.val (rv_assign rfl) rfl ?_
              refine GL.val (rv_assign rfl) rfl ?_
              refine GL.nil ?_
              refine GX.then ?_
              refine GC.reg ?_
              refine GL.val (rv_move rfl) rfl ?_
              refine GL.val (rv_field fo_27_1 rfl rfl) rfl ?_
              refine GL.val (rv_load ag_3 rfl (by first | exact Hd.cell (k := 6) rfl rfl | exact Hd.rowCell (k := 6) rfl (by assumption))) rfl ?_
              refine GL.step (ot_call hb_18 rfl (callOk fun w hh => rdouble_c A _ c ps w (fun f hf => hh.rd0n (hR f hf)) rfl (by omega) hbs o.1.2) rfl fun gy hy => ?_)
              obtain ⟨⟨Ay, cy⟩, ys⟩ := gy
              obtain ⟨hy, hym⟩ := hy
              dsimp only at hy hym
              refine GL.val (rv_move rfl) rfl ?_
              refine GL.val (rv_extract rfl rfl) rfl ?_
              refine GL.val (rv_extract rfl rfl) rfl ?_
              refine GL.val (rv_assign rfl) rfl ?_
              refine GL.val (rv_assign rfl) rfl ?_
              refine GL.nil ?_
              refine GX.blk ?_
              exact GX.cutq (Ax, cx, xs, Ay, cy, ys, (Ml.double (Ml.pl ps) o.1.2).2) ⟨hx.trans hy.symm, fun r hr => .inl (hym r hr), by show xs.length ≤ 1000000; have h1 := double_len (Ml.pl ps) o.1.2; rw [← hx, Ml.pl_len] at h1; omega⟩ (by repeat (first | exact Sub.nil | refine Sub.cons rfl ?_)) (fun w9 h => by
                  have h := h.sel [7, 6, 5, 4, 3, 2, 0, 1] rfl rfl
                  exact h)
            · refine GC.skip ?_
              refine GX.blk ?_
              exact GX.cutq (none, 0, [], none, 0, [], 0) ⟨rfl, (fun r h => by cases h), Nat.zero_le _⟩ (by repeat (first | exact Sub.nil | refine Sub.cons rfl ?_)) (fun w9 h => by
                  have h := St.pfNil (St.pcNil h)
                  exact h)
      dsimp only at hxy hym hxl ⊢
      refine GX.then ?_
      refine GC.seq ?_
      refine GC.seq ?_
      refine GC.reg ?_
      refine GL.val (rv_move rfl) rfl ?_
      refine GL.val (rv_move rfl) rfl ?_
      refine GL.val (rv_to (v' := .bool false) (rv_neI rfl rfl) (by simp)) rfl ?_
      refine GL.val (rv_move rfl) rfl ?_
      first | refine GL.skipG rfl rfl ?_ | refine GL.skipU rfl rfl ?_ | refine GL.valT rfl (rv_move rfl) rfl ?_ | refine GL.valG rfl (fun hb => rv_move (by first | exact evb rfl hb | rfl)) rfl ?_
      first | refine GL.skipG rfl rfl ?_ | refine GL.skipU rfl rfl ?_ | refine GL.valT rfl (rv_move rfl) rfl ?_ | refine GL.valG rfl (fun hb => rv_move (by first | exact evb rfl hb | rfl)) rfl ?_
      first | refine GL.skipG rfl rfl ?_ | refine GL.skipU rfl rfl ?_ | refine GL.stepG rfl (ot_call hb_19 rfl (callOk fun w hh => same_b A5 A _ _ c5 c qs ps w (own_facts hh (i := 4) (j := 5) rfl rfl) (fun f hf => hh.rd0n (hR f hf)) hql rfl (by omega) hqs) rfl fun _ _ => ?_)
      first | refine GL.skipG rfl rfl ?_ | refine GL.skipU rfl rfl ?_ | refine GL.valT rfl (rv_not rfl) rfl ?_ | refine GL.valG rfl (fun hb => rv_not (by first | exact evb rfl hb | rfl)) rfl ?_
      refine GL.val ((by first | exact rv_orF rfl rfl rfl | exact rv_orT rfl rfl rfl | exact rv_pickOr rfl rfl rfl)) rfl ?_
      refine GL.nil ?_
      refine GX.then ?_
      first | refine GC.condP rfl (fun c119 => ?_) (fun c119 => ?_) | refine GC.cond rfl (fun c119 => ?_) (fun c119 => ?_)
      · exact absurd c119 (by simp)
      · refine GC.skip ?_
        refine GX.then ?_
        refine GC.seq ?_
        refine GC.seq ?_
        refine GC.reg ?_
        refine GL.val (rv_assign rfl) rfl ?_
        refine GL.nil ?_
        refine GX.then ?_
        refine GC.block ?_
        refine GC.loopK (γ := Nat) [9, 8, 7, 5] [7, 6, 4, 3, 2, 1, 0] (fun g Lk => (12, .int .i64 (g : Int)) :: Lk) (fun g Fk => grp ((qs.take g).map irow) :: grp ((qs.drop g).map brow) :: Fk) (fun g => g ≤ qs.length) (fun g => qs.length - g) (0) rfl rfl (Nat.zero_le _) (by repeat (first | exact Sub.nil | refine Sub.cons rfl ?_)) (fun w9 h => by
            have h := h.grpNil
            have h := h.sel [8, 7, 5, 4, 3, 2, 1, 6, 0] rfl rfl
            exact h) (fun i hi0 => ?_)
        skip
        refine GC.seq ?_
        refine GC.seq ?_
        refine GC.reg ?_
        refine GL.val (rv_move rfl) rfl ?_
        refine GL.val (rv_move rfl) rfl ?_
        refine GL.val (rv_lenSl Try.underlying22 rfl) rfl ?_
        refine GL.val (rv_lss rfl rfl) rfl ?_
        refine GL.nil ?_
        refine GX.then ?_
        first | refine GC.condP rfl (fun c123 => ?_) (fun c123 => ?_) | refine GC.cond rfl (fun c123 => ?_) (fun c123 => ?_)
        · have hi : i < qs.length := by omega
          refine GC.skip ?_
          refine GX.then ?_
          refine GC.seq ?_
          refine GC.block ?_
          refine GC.seq ?_
          refine GC.st (Fs' := _) (fun w9 h => by
            have h := h.sel [8, 7, 6, 5, 4, 3, 2, 0, 1] rfl rfl
            rw [List.drop_eq_getElem_cons hi, List.map_cons] at h
            have h := h.grpHead
            exact h) ?_
          refine GC.reg ?_
          refine GL.val (rv_assign rfl) rfl ?_
          refine GL.nil ?_
          refine GX.then ?_
          refine GC.block ?_
          refine GC.loopK (γ := Nat) [12, 9, 8, 7, 5] [9, 8, 7, 6, 5, 4, 3, 2, 1] (fun g Lk => (13, .int .i64 (g : Int)) :: Lk) (fun g Fk => jrow qs[i] g :: Fk) (fun g => g ≤ qs[i].1.2.2.length) (fun g => qs[i].1.2.2.length - g) (0) rfl rfl (Nat.zero_le _) (by repeat (first | exact Sub.nil | refine Sub.cons rfl ?_)) (fun w9 h => by
              exact h) (fun k hk => ?_)
          skip
          unfold jrow
          refine GC.seq ?_
          refine GC.seq ?_
          refine GC.rowForm (k := 7) rfl fun _ _ hfi => ?_
          obtain ⟨bi, rfl⟩ := hfi.resolve_left (by omega)
          refine GC.reg ?_
          refine GL.val (rv_move rfl) rfl ?_
          refine GL.val (rv_move rfl) rfl ?_
          refine GL.val (rv_move rfl) rfl ?_
          refine GL.val (rv_elemJ (q := i * 3) i es_22 rfl rfl rfl (by omega) (by omega)) rfl ?_
          refine GL.val (rv_field fo_25_2 rfl rfl) rfl ?_
          refine GL.val (rv_load ag_23 rfl (Hd.rowCell (k := 7) rfl (Ml.pcs_get qs i hi 2 (by omega)))) rfl ?_
          refine GL.val (rv_lenSl Try.underlying23 rfl) rfl ?_
          refine GL.val (rv_lss rfl rfl) rfl ?_
          refine GL.nil ?_
          refine GX.then ?_
          first | refine GC.condP rfl (fun c133 => ?_) (fun c133 => ?_) | refine GC.cond rfl (fun c133 => ?_) (fun c133 => ?_)
          · have hk2 : k < qs[i].1.2.2.length := by omega
            have hqi := hqb _ (List.getElem_mem hi)
            refine GC.skip ?_
            refine GX.then ?_
            refine GC.seq ?_
            refine GC.block ?_
            refine GC.rowForm (k := 0) rfl fun _ _ hfj => ?_
            obtain ⟨bj, hbj⟩ := hfj.resolve_left (by omega)
            rw [hbj]
            refine GC.rowForm (k := 7) rfl fun _ _ hfi => ?_
            refine GC.reg ?_
            refine GL.val (rv_move rfl) rfl ?_
            refine GL.val (rv_move rfl) rfl ?_
            refine GL.val (rv_elemJ (q := i * 3) i es_22 rfl rfl rfl (by omega) (by omega)) rfl ?_
            refine GL.val (rv_field fo_25_2 rfl rfl) rfl ?_
            refine GL.val (rv_load ag_23 rfl (Hd.rowCell (k := 7) (u := .slice (some ⟨bj, 0, none⟩) qs[i].1.2.2.length qs[i].2.2) rfl (by rw [← hbj]; exact Ml.pcs_get qs i hi 2 (by omega)))) rfl ?_
            refine GL.val (rv_move rfl) rfl ?_
            refine GL.val (rv_elemJ (q := k) k es_23 rfl rfl rfl (by omega) (by omega)) rfl ?_
            refine GL.val (rv_load ag_5 rfl (Hd.rowCell (k := 0) rfl (inc_get _ k hk2))) rfl ?_
            refine GL.val (rv_inc8 rfl) rfl ?_
            refine GL.val (rv_elemJ (q := k) k es_23 rfl rfl rfl (by omega) (by omega)) rfl ?_
            refine GL.step (ot_storeRow (k := 0) rfl rfl rfl rfl (by exact sz_5) rfl (by rw [inc_len _ _ (by omega)]; omega) (inc_step _ k hk2) ?_)
            refine GL.nil ?_
            refine GX.blk ?_
            refine GX.then ?_
            refine GC.reg ?_
            refine GL.val (rv_move rfl) rfl ?_
            refine GL.val (rv_add rfl rfl (by omega) (by omega)) rfl ?_
            refine GL.val (rv_assign rfl) rfl ?_
            refine GL.nil ?_
            exact GX.round (k + 1) (by omega) (by omega) (by repeat (first | exact Sub.nil | refine Sub.cons rfl ?_)) (fun w9 h => by
                exact h)
          · refine GC.exit ?_
            refine GX.then_exit ?_
            refine GX.then_exit ?_
            refine GX.blk_eq ?_
            refine GX.blk ?_
            refine GX.then ?_
            refine GC.reg ?_
            refine GL.val (rv_move rfl) rfl ?_
            refine GL.val (rv_add rfl rfl (by omega) (by omega)) rfl ?_
            refine GL.val (rv_assign rfl) rfl ?_
            refine GL.nil ?_
            obtain rfl : k = qs[i].1.2.2.length := by omega
            exact GX.round (i + 1) (by omega) (by omega) (by repeat (first | exact Sub.nil | refine Sub.cons rfl ?_)) (fun w9 h => by
                have h := h.sel [9, 8, 6, 5, 4, 3, 7, 1, 2, 0] rfl rfl
                have h := h.grpSnoc
                have h := h.sel [8, 7, 2, 6, 5, 4, 3, 1, 0] rfl rfl
                rw [Ml.take_succ' qs i hi, List.map_append]
                have e : byts (inc8 (qs[i].1.2.2.take qs[i].1.2.2.length) ++ qs[i].1.2.2.drop qs[i].1.2.2.length) = byts (inc8 qs[i].1.2.2) := by simp
                rw [e] at h
                exact h)
        · obtain rfl : i = qs.length := by omega
          refine GC.exit ?_
          refine GX.then_exit ?_
          refine GX.then_exit ?_
          refine GX.blk_eq ?_
          refine GX.then ?_
          refine GC.seq ?_
          refine GC.seq ?_
          refine GC.reg ?_
          refine GL.val (rv_assign rfl) rfl ?_
          refine GL.nil ?_
          refine GX.then ?_
          refine GC.block ?_
          refine GC.loopK (γ := Nat) [9, 8, 7] [8, 7, 6, 4, 3, 2, 1, 0] (fun g Lk => (14, .int .i64 (g : Int)) :: Lk) (fun g Fk => .row A58 c58 5 1 o.2.1.2.2.length (byts (inc8 (o.2.1.2.2.take g) ++ o.2.1.2.2.drop g)) :: Fk) (fun g => g ≤ o.2.1.2.2.length) (fun g => o.2.1.2.2.length - g) (0) rfl rfl (Nat.zero_le _) (by repeat (first | exact Sub.nil | refine Sub.cons rfl ?_)) (fun w9 h => by
              have h := h.sel [8, 7, 6, 4, 3, 2, 1, 0, 5] rfl rfl
              exact h) (fun m hm => ?_)
          skip
          refine GC.seq ?_
          refine GC.seq ?_
          refine GC.reg ?_
          refine GL.val (rv_move rfl) rfl ?_
          refine GL.val (rv_field fo_25_2 rfl rfl) rfl ?_
          refine GL.val (rv_load ag_23 rfl (by first | exact Hd.cell (k := 5) rfl rfl | exact Hd.rowCell (k := 5) rfl (by assumption))) rfl ?_
          refine GL.val (rv_lenSl Try.underlying23 rfl) rfl ?_
          refine GL.val (rv_lss rfl rfl) rfl ?_
          refine GL.nil ?_
          refine GX.then ?_
          first | refine GC.condP rfl (fun c150 => ?_) (fun c150 => ?_) | refine GC.cond rfl (fun c150 => ?_) (fun c150 => ?_)
          · dsimp only at c150
            have hm2 : m < o.2.1.2.2.length := by omega
            refine GC.skip ?_
            refine GX.then ?_
            refine GC.seq ?_
            refine GC.block ?_
            refine GC.rowForm (k := 0) rfl fun _ _ hfp => ?_
            obtain ⟨bp, rfl⟩ := hfp.resolve_left (by omega)
            refine GC.reg ?_
            refine GL.val (rv_field fo_25_2 rfl rfl) rfl ?_
            refine GL.val (rv_load ag_23 rfl (by first | exact Hd.cell (k := 5) rfl rfl | exact Hd.rowCell (k := 5) rfl (by assumption))) rfl ?_
            refine GL.val (rv_move rfl) rfl ?_
            refine GL.val (rv_elemJ (q := m) m es_23 rfl rfl rfl (by omega) (by omega)) rfl ?_
            refine GL.val (rv_load ag_5 rfl (Hd.rowCell (k := 0) rfl (inc_get _ m hm2))) rfl ?_
            refine GL.val (rv_inc8 rfl) rfl ?_
            refine GL.val (rv_elemJ (q := m) m es_23 rfl rfl rfl (by omega) (by omega)) rfl ?_
            refine GL.step (ot_storeRow (k := 0) rfl rfl rfl rfl (by exact sz_5) rfl (by rw [inc_len _ _ (by omega)]; omega) (inc_step _ m hm2) ?_)
            refine GL.nil ?_
            refine GX.blk ?_
            refine GX.then ?_
            refine GC.reg ?_
            refine GL.val (rv_move rfl) rfl ?_
            refine GL.val (rv_add rfl rfl (by omega) (by omega)) rfl ?_
            refine GL.val (rv_assign rfl) rfl ?_
            refine GL.nil ?_
            exact GX.round (m + 1) (by omega) (by omega) (by repeat (first | exact Sub.nil | refine Sub.cons rfl ?_)) (fun w9 h => by
                exact h)
          · refine GC.exit ?_
            refine GX.then_exit ?_
            refine GX.then_exit ?_
            refine GX.blk_eq ?_
            refine GX.then ?_
            refine GC.seq ?_
            refine GC.reg ?_
            refine GL.val (rv_move rfl) rfl ?_
            refine GL.val (rv_move rfl) rfl ?_
            refine GL.step (ot_call hb_19 rfl (callOk fun w hh => same_b Ax Ay _ _ cx cy xs ys w (hh.frzN (k := 3) rfl) (pfR (hh.frzN (k := 4) rfl _ (List.mem_singleton.2 rfl)) (fun r hr => hh.rd0n ((hym r hr).elim (fun h => bfR hR r h) (fun h => h ▸ ho)))) rfl rfl hxl hxy) rfl fun _ _ => ?_)
            refine GL.val (rv_move rfl) rfl ?_
            first | refine GL.skipG rfl rfl ?_ | refine GL.skipU rfl rfl ?_ | refine GL.stepG rfl (ot_call hb_8 rfl (callOk fun w hh => works_c w) rfl fun _ _ => ?_)
            refine GL.val ((by first | exact rv_andT rfl rfl rfl | exact rv_andF rfl rfl rfl | exact rv_pickAnd rfl rfl rfl)) rfl ?_
            refine GL.val (rv_assign rfl) rfl ?_
            refine GL.nil ?_
            refine GX.then ?_
            refine GC.ret ?_
            refine GX.ret1 rfl (RR.tmp rfl) ?_
            exact fun w9 h => ⟨(), rfl, by
                have h := h.sel [] rfl rfl
                exact h, trivial⟩
end Go.Proofs.Ytgdbcclammapnaa
