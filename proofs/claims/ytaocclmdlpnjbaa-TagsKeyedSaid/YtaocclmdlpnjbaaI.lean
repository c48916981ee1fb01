import Derived.Test.YtaocclmdlpnjbaaH
set_option linter.unusedVariables false
set_option linter.unusedSimpArgs false
namespace Go.Proofs.Ytaocclmdlpnjbaa
open Go Go.RowKit Go.Bz
theorem ag_9 : aggB Try.prog 9 = some false := by kernel_rfl
theorem fo_26_0 : fieldOff Try.prog 26 0 = some 0 := by kernel_rfl
theorem fo_26_1 : fieldOff Try.prog 26 1 = some 1 := by kernel_rfl
theorem fo_26_2 : fieldOff Try.prog 26 2 = some 33 := by kernel_rfl
theorem fo_26_3 : fieldOff Try.prog 26 3 = some 65 := by kernel_rfl
theorem fo_34_0 : fieldOff Try.prog 34 0 = some 0 := by kernel_rfl
theorem fo_34_1 : fieldOff Try.prog 34 1 = some 1 := by kernel_rfl
theorem fo_34_2 : fieldOff Try.prog 34 2 = some 2 := by kernel_rfl
theorem hb_35 : hasBody Try.prog 35 = true := by kernel_rfl
theorem hb_46 : hasBody Try.prog 46 = true := by kernel_rfl
theorem hb_49 : hasBody Try.prog 49 = true := by kernel_rfl
theorem hb_58 : hasBody Try.prog 58 = true := by kernel_rfl
def rcell (e : UInt64) (p t x : Sh.B) : List Value := v64 e :: (ws8 p ++ (ws8 t ++ ws8 x))
theorem rc_p {e : UInt64} {p t x : Sh.B} (hp : p.length = 32) : ((rcell e p t x).drop 1).take (byts p).length = byts p := by
  unfold rcell; rw [List.drop_succ_cons, List.drop_zero]; exact List.take_left
theorem rc_t {e : UInt64} {p t x : Sh.B} (hp : p.length = 32) : ((rcell e p t x).drop 33).take (byts t).length = byts t := by
  unfold rcell; rw [List.drop_succ_cons, List.drop_append, List.drop_of_length_le (by rw [ws8_len]; omega), ws8_len, hp]; exact List.take_left
theorem rc_x {e : UInt64} {p t x : Sh.B} (hp : p.length = 32) (ht : t.length = 32) : ((rcell e p t x).drop 65).take (byts x).length = byts x := by
  unfold rcell
  rw [List.drop_succ_cons, List.drop_append, List.drop_of_length_le (by rw [ws8_len]; omega), ws8_len, hp, List.nil_append, List.drop_append, List.drop_of_length_le (by rw [ws8_len]; omega), ws8_len, ht, List.nil_append]
  exact List.take_of_length_le (by simp [byts, ws8])
def rbytes (e : UInt64) (p t x : Sh.B) : Sh.B := 82 :: (num e ++ (p ++ (t ++ x)))
def bcell (nm : ByteArray) (key : Sh.B) (kA : Option Addr) (kc : Nat) (ser : UInt64) : List Value := [.string nm, .slice kA key.length kc, v64 ser]
def vbytes (salt : Sh.B) (nm : ByteArray) (key : Sh.B) (ser : UInt64) : Sh.B := 86 :: (salt ++ (num (UInt64.ofNat nm.size) ++ (nm.data.toList ++ (num ser ++ key))))
set_option maxRecDepth 100000 in
set_option maxHeartbeats 1000000 in
theorem root_c (e : UInt64) (p t x : Sh.B) (w : World) (hp : p.length = 32) (ht : t.length = 32) (hx : x.length = 32) :
    Calls Try.prog 14 [.agg (rcell e p t x).toArray].toArray w fun e' w' => ∃ g : Option Addr × Nat, e' = .returned (.slice g.1 (rbytes e p t x).length g.2) ∧ St noB w w' [roP g.1 (byts (rbytes e p t x))] ∧ (rbytes e p t x).length ≤ g.2 := by
  refine GC.calls Try.func14 rfl rfl (St.begin _) ?_
  refine GC.seq ?_
  refine GC.reg ?_
  refine GL.step (ot_box rfl rfl rfl fun b1 => ?_)
  refine GL.val (rv_assign rfl) rfl ?_
  refine GL.nil ?_
  refine GX.then ?_
  refine GC.seq ?_
  refine GC.draw 12 [0] mo_ ?_
  refine GD.pure (i := 0) rfl (fun _ _ => rv_field fo_26_0 rfl rfl) (by kernel_rfl) (by repeat (first | exact noPanicPut_body | exact noPanicPut_cut | exact noPanicPut_cutE | refine noPanicPut_then ?_ | refine noPanicPut_blk ?_)) ?_
  refine GD.pure (i := 3) rfl (fun _ _ => rv_field fo_26_1 rfl rfl) (by kernel_rfl) (by repeat (first | exact noPanicPut_body | exact noPanicPut_cut | exact noPanicPut_cutE | refine noPanicPut_then ?_ | refine noPanicPut_blk ?_)) ?_
  refine GD.pure (i := 4) rfl (fun _ _ => rv_to (v' := .slice (some ⟨b1, 1, none⟩) p.length 32) (rv_slA (E := 5) as_24 rfl rfl rfl 0 32 1 rfl rfl (by decide) (by decide) (by decide) rfl) (by rw [hp])) (by kernel_rfl) (by repeat (first | exact noPanicPut_body | exact noPanicPut_cut | exact noPanicPut_cutE | refine noPanicPut_then ?_ | refine noPanicPut_blk ?_)) ?_
  refine GD.pure (i := 5) rfl (fun _ _ => rv_field fo_26_2 rfl rfl) (by kernel_rfl) (by repeat (first | exact noPanicPut_body | exact noPanicPut_cut | exact noPanicPut_cutE | refine noPanicPut_then ?_ | refine noPanicPut_blk ?_)) ?_
  refine GD.pure (i := 6) rfl (fun _ _ => rv_to (v' := .slice (some ⟨b1, 33, none⟩) t.length 32) (rv_slA (E := 5) as_24 rfl rfl rfl 0 32 33 rfl rfl (by decide) (by decide) (by decide) rfl) (by rw [ht])) (by kernel_rfl) (by repeat (first | exact noPanicPut_body | exact noPanicPut_cut | exact noPanicPut_cutE | refine noPanicPut_then ?_ | refine noPanicPut_blk ?_)) ?_
  refine GD.pure (i := 7) rfl (fun _ _ => rv_field fo_26_3 rfl rfl) (by kernel_rfl) (by repeat (first | exact noPanicPut_body | exact noPanicPut_cut | exact noPanicPut_cutE | refine noPanicPut_then ?_ | refine noPanicPut_blk ?_)) ?_
  refine GD.pure (i := 8) rfl (fun _ _ => rv_to (v' := .slice (some ⟨b1, 65, none⟩) x.length 32) (rv_slA (E := 5) as_24 rfl rfl rfl 0 32 65 rfl rfl (by decide) (by decide) (by decide) rfl) (by rw [hx])) (by kernel_rfl) (by repeat (first | exact noPanicPut_body | exact noPanicPut_cut | exact noPanicPut_cutE | refine noPanicPut_then ?_ | refine noPanicPut_blk ?_)) ?_
  refine GD.step (i := 1) (by kernel_rfl) rfl (ot_val (rv_load ag_22 rfl (by first | exact Hd.cell (k := 0) rfl rfl | exact Hd.rowCell (k := 0) rfl (by assumption))) rfl ⟨.inr fun _ h => h.pk [0], ?_⟩)
  refine GD.step (i := 2) (by kernel_rfl) rfl (ot_call hb_46 rfl (callOk fun w hh => number_b e w) rfl fun g5 _ => ⟨.inr fun _ h => h.pk [1], ?_⟩)
  obtain ⟨A5, c5⟩ := g5
  refine GD.step (i := 9) (by kernel_rfl) rfl (ot_buildSlice ei_48 rfl rfl rfl rfl rfl rfl fun b12 => ⟨.inr fun _ h => h.pk [2], ?_⟩)
  refine GD.step (i := 10) (by kernel_rfl) rfl (ot_call hb_45 rfl (callOk fun w hh => begin_b 82 (some ⟨b12, 0, none⟩) 4 4 [(num e, (A5, c5)), (p, (some ⟨b1, 1, none⟩, 32)), (t, (some ⟨b1, 33, none⟩, 32)), (x, (some ⟨b1, 65, none⟩, 32))] (rbytes e p t x) (by simp [cat, rbytes]) w (slr_cl hh (k := 0) rfl rfl) (al (hh.ro (k := 1) rfl) (al (slr_cl hh (k := 2) rfl (rc_p hp)) (al (slr_cl hh (k := 2) rfl (rc_t hp)) (al (slr_cl hh (k := 2) rfl (rc_x hp ht)) an)))) rfl (by decide) (by simp [rbytes, num_len, hp, ht, hx])) rfl fun g8 h8 => ⟨.inr fun _ h => h.pk [3], ?_⟩)
  refine GD.pure (i := 11) rfl (fun _ _ => rv_assign rfl) (by kernel_rfl) (by repeat (first | exact noPanicPut_body | exact noPanicPut_cut | exact noPanicPut_cutE | refine noPanicPut_then ?_ | refine noPanicPut_blk ?_)) ?_
  refine GD.done (by kernel_rfl) ?_
  refine GX.then ?_
  refine GC.ret ?_
  refine GX.ret1 rfl (RR.tmp rfl) ?_
  exact fun w9 h => ⟨g8, rfl, by
      have h := h.sel [0] rfl rfl
      exact h, h8⟩
set_option maxRecDepth 100000 in
set_option maxHeartbeats 1000000 in
theorem rroot_c (e : UInt64) (p t x : Sh.B) (w : World) (hp : p.length = 32) (ht : t.length = 32) (hx : x.length = 32) :
    Calls Try.prog 24 [.agg (rcell e p t x).toArray].toArray w fun e' w' => ∃ g : Option Addr × Nat, e' = .returned (.slice g.1 (rbytes e p t x).length g.2) ∧ St noB w w' [roP g.1 (byts (rbytes e p t x))] ∧ (rbytes e p t x).length ≤ g.2 := by
  refine GC.calls Try.func24 rfl rfl (St.begin _) ?_
  refine GC.seq ?_
  refine GC.reg ?_
  refine GL.step (ot_box rfl rfl rfl fun b1 => ?_)
  refine GL.val (rv_assign rfl) rfl ?_
  refine GL.nil ?_
  refine GX.then ?_
  refine GC.seq ?_
  refine GC.draw 12 [0] mo_ ?_
  refine GD.pure (i := 0) rfl (fun _ _ => rv_field fo_26_0 rfl rfl) (by kernel_rfl) (by repeat (first | exact noPanicPut_body | exact noPanicPut_cut | exact noPanicPut_cutE | refine noPanicPut_then ?_ | refine noPanicPut_blk ?_)) ?_
  refine GD.pure (i := 3) rfl (fun _ _ => rv_field fo_26_1 rfl rfl) (by kernel_rfl) (by repeat (first | exact noPanicPut_body | exact noPanicPut_cut | exact noPanicPut_cutE | refine noPanicPut_then ?_ | refine noPanicPut_blk ?_)) ?_
  refine GD.pure (i := 4) rfl (fun _ _ => rv_to (v' := .slice (some ⟨b1, 1, none⟩) p.length 32) (rv_slA (E := 5) as_24 rfl rfl rfl 0 32 1 rfl rfl (by decide) (by decide) (by decide) rfl) (by rw [hp])) (by kernel_rfl) (by repeat (first | exact noPanicPut_body | exact noPanicPut_cut | exact noPanicPut_cutE | refine noPanicPut_then ?_ | refine noPanicPut_blk ?_)) ?_
  refine GD.pure (i := 5) rfl (fun _ _ => rv_field fo_26_2 rfl rfl) (by kernel_rfl) (by repeat (first | exact noPanicPut_body | exact noPanicPut_cut | exact noPanicPut_cutE | refine noPanicPut_then ?_ | refine noPanicPut_blk ?_)) ?_
  refine GD.pure (i := 6) rfl (fun _ _ => rv_to (v' := .slice (some ⟨b1, 33, none⟩) t.length 32) (rv_slA (E := 5) as_24 rfl rfl rfl 0 32 33 rfl rfl (by decide) (by decide) (by decide) rfl) (by rw [ht])) (by kernel_rfl) (by repeat (first | exact noPanicPut_body | exact noPanicPut_cut | exact noPanicPut_cutE | refine noPanicPut_then ?_ | refine noPanicPut_blk ?_)) ?_
  refine GD.pure (i := 7) rfl (fun _ _ => rv_field fo_26_3 rfl rfl) (by kernel_rfl) (by repeat (first | exact noPanicPut_body | exact noPanicPut_cut | exact noPanicPut_cutE | refine noPanicPut_then ?_ | refine noPanicPut_blk ?_)) ?_
  refine GD.pure (i := 8) rfl (fun _ _ => rv_to (v' := .slice (some ⟨b1, 65, none⟩) x.length 32) (rv_slA (E := 5) as_24 rfl rfl rfl 0 32 65 rfl rfl (by decide) (by decide) (by decide) rfl) (by rw [hx])) (by kernel_rfl) (by repeat (first | exact noPanicPut_body | exact noPanicPut_cut | exact noPanicPut_cutE | refine noPanicPut_then ?_ | refine noPanicPut_blk ?_)) ?_
  refine GD.step (i := 1) (by kernel_rfl) rfl (ot_val (rv_load ag_22 rfl (by first | exact Hd.cell (k := 0) rfl rfl | exact Hd.rowCell (k := 0) rfl (by assumption))) rfl ⟨.inr fun _ h => h.pk [0], ?_⟩)
  refine GD.step (i := 2) (by kernel_rfl) rfl (ot_call hb_49 rfl (callOk fun w hh => rnumber_b e w) rfl fun g5 _ => ⟨.inr fun _ h => h.pk [1], ?_⟩)
  obtain ⟨A5, c5⟩ := g5
  refine GD.step (i := 9) (by kernel_rfl) rfl (ot_buildSlice ei_48 rfl rfl rfl rfl rfl rfl fun b12 => ⟨.inr fun _ h => h.pk [2], ?_⟩)
  refine GD.step (i := 10) (by kernel_rfl) rfl (ot_call hb_48 rfl (callOk fun w hh => sign_c 82 (some ⟨b12, 0, none⟩) 4 4 [(num e, (A5, c5)), (p, (some ⟨b1, 1, none⟩, 32)), (t, (some ⟨b1, 33, none⟩, 32)), (x, (some ⟨b1, 65, none⟩, 32))] (rbytes e p t x) (by simp [cat, rbytes]) w (slr_cl hh (k := 0) rfl rfl) (al (hh.ro (k := 1) rfl) (al (slr_cl hh (k := 2) rfl (rc_p hp)) (al (slr_cl hh (k := 2) rfl (rc_t hp)) (al (slr_cl hh (k := 2) rfl (rc_x hp ht)) an)))) rfl (by decide) (by simp [rbytes, num_len, hp, ht, hx])) rfl fun g8 h8 => ⟨.inr fun _ h => h.pk [3], ?_⟩)
  refine GD.pure (i := 11) rfl (fun _ _ => rv_assign rfl) (by kernel_rfl) (by repeat (first | exact noPanicPut_body | exact noPanicPut_cut | exact noPanicPut_cutE | refine noPanicPut_then ?_ | refine noPanicPut_blk ?_)) ?_
  refine GD.done (by kernel_rfl) ?_
  refine GX.then ?_
  refine GC.ret ?_
  refine GX.ret1 rfl (RR.tmp rfl) ?_
  exact fun w9 h => ⟨g8, rfl, by
      have h := h.sel [0] rfl rfl
      exact h, h8⟩
set_option maxRecDepth 100000 in
set_option maxHeartbeats 1000000 in
theorem value_c (x : Sh.B) (nm : ByteArray) (key : Sh.B) (kA : Option Addr) (kc : Nat) (ser : UInt64) (w : World) (hx : x.length = 32) (hk : SlR w kA (byts key)) (hkl : key.length ≤ 1000000) (hnl : nm.size ≤ 1000000) :
    Calls Try.prog 20 [.agg (ws8 x).toArray, .agg (bcell nm key kA kc ser).toArray].toArray w fun e w' => ∃ g : Option Addr × Nat, e = .returned (.slice g.1 (vbytes x nm key ser).length g.2) ∧ St noB w w' [roP g.1 (byts (vbytes x nm key ser))] ∧ (vbytes x nm key ser).length ≤ g.2 := by
  refine GC.calls Try.func20 rfl rfl (St.begin _) ?_
  refine GC.seq ?_
  refine GC.reg ?_
  refine GL.step (ot_box rfl rfl rfl fun b2 => ?_)
  refine GL.step (ot_box rfl rfl rfl fun b3 => ?_)
  refine GL.val (rv_assign rfl) rfl ?_
  refine GL.nil ?_
  refine GX.then ?_
  refine GC.seq ?_
  refine GC.draw 17 [0, 1] mo_ ?_
  refine GD.pure (i := 0) rfl (fun _ _ => rv_to (v' := .slice (some ⟨b2, 0, none⟩) x.length 32) (rv_slA (E := 5) as_24 rfl rfl rfl 0 32 0 rfl rfl (by decide) (by decide) (by decide) rfl) (by rw [hx])) (by kernel_rfl) (by repeat (first | exact noPanicPut_body | exact noPanicPut_cut | exact noPanicPut_cutE | refine noPanicPut_then ?_ | refine noPanicPut_blk ?_)) ?_
  refine GD.pure (i := 1) rfl (fun _ _ => rv_field fo_34_0 rfl rfl) (by kernel_rfl) (by repeat (first | exact noPanicPut_body | exact noPanicPut_cut | exact noPanicPut_cutE | refine noPanicPut_then ?_ | refine noPanicPut_blk ?_)) ?_
  refine GD.pure (i := 6) rfl (fun _ _ => rv_field fo_34_0 rfl rfl) (by kernel_rfl) (by repeat (first | exact noPanicPut_body | exact noPanicPut_cut | exact noPanicPut_cutE | refine noPanicPut_then ?_ | refine noPanicPut_blk ?_)) ?_
  refine GD.pure (i := 9) rfl (fun _ _ => rv_field fo_34_2 rfl rfl) (by kernel_rfl) (by repeat (first | exact noPanicPut_body | exact noPanicPut_cut | exact noPanicPut_cutE | refine noPanicPut_then ?_ | refine noPanicPut_blk ?_)) ?_
  refine GD.pure (i := 12) rfl (fun _ _ => rv_field fo_34_1 rfl rfl) (by kernel_rfl) (by repeat (first | exact noPanicPut_body | exact noPanicPut_cut | exact noPanicPut_cutE | refine noPanicPut_then ?_ | refine noPanicPut_blk ?_)) ?_
  refine GD.read (i := 2) rfl (rv_load ag_9 rfl (by first | exact Hd.cell (k := 0) rfl rfl | exact Hd.rowCell (k := 0) rfl (by assumption))) (by kernel_rfl) (by repeat (first | exact noPanicPut_body | exact noPanicPut_cut | exact noPanicPut_cutE | refine noPanicPut_then ?_ | refine noPanicPut_blk ?_)) ?_
  refine GD.pure (i := 3) rfl (fun _ _ => rv_lenS Try.underlying9 rfl) (by kernel_rfl) (by repeat (first | exact noPanicPut_body | exact noPanicPut_cut | exact noPanicPut_cutE | refine noPanicPut_then ?_ | refine noPanicPut_blk ?_)) ?_
  refine GD.pure (i := 4) rfl (fun _ _ => rv_conv64I (nm.size) Try.underlying3 Try.underlying22 rfl (by first | rfl | omega)) (by kernel_rfl) (by repeat (first | exact noPanicPut_body | exact noPanicPut_cut | exact noPanicPut_cutE | refine noPanicPut_then ?_ | refine noPanicPut_blk ?_)) ?_
  refine GD.read (i := 7) rfl (rv_load ag_9 rfl (by first | exact Hd.cell (k := 0) rfl rfl | exact Hd.rowCell (k := 0) rfl (by assumption))) (by kernel_rfl) (by repeat (first | exact noPanicPut_body | exact noPanicPut_cut | exact noPanicPut_cutE | refine noPanicPut_then ?_ | refine noPanicPut_blk ?_)) ?_
  refine GD.read (i := 10) rfl (rv_load ag_22 rfl (by first | exact Hd.cell (k := 0) rfl rfl | exact Hd.rowCell (k := 0) rfl (by assumption))) (by kernel_rfl) (by repeat (first | exact noPanicPut_body | exact noPanicPut_cut | exact noPanicPut_cutE | refine noPanicPut_then ?_ | refine noPanicPut_blk ?_)) ?_
  refine GD.read (i := 13) rfl (rv_load ag_28 rfl (by first | exact Hd.cell (k := 0) rfl rfl | exact Hd.rowCell (k := 0) rfl (by assumption))) (by kernel_rfl) (by repeat (first | exact noPanicPut_body | exact noPanicPut_cut | exact noPanicPut_cutE | refine noPanicPut_then ?_ | refine noPanicPut_blk ?_)) ?_
  refine GD.eachN2 (i := 5) (j := 8) (by kernel_rfl) rfl rfl ?_ ?_
  · refine ot_call hb_46 rfl (callOk fun w hh => number_b _ w) rfl fun g10 _ => ⟨.inr fun _ h => h.pk [1, 2], ?_⟩
    obtain ⟨A10, c10⟩ := g10
    refine GD.eachN2 (i := 8) (j := 11) (by kernel_rfl) rfl rfl ?_ ?_
    · refine ot_convSB (us := byts nm.data.toList) Try.underlying9 Try.underlying28 Try.underlying5 rfl rfl rfl fun b13 c13 => ⟨.inr fun _ h => h.pk [2, 3], ?_⟩
      refine GD.step (i := 11) (by kernel_rfl) rfl (ot_call hb_46 rfl (callOk fun w hh => number_b _ w) rfl fun g16 _ => ⟨.inr fun _ h => h.pk [3, 4], ?_⟩)
      obtain ⟨A16, c16⟩ := g16
      refine GD.step (i := 14) (by kernel_rfl) rfl (ot_buildSlice ei_48 rfl rfl rfl rfl rfl rfl fun b19 => ⟨.inr fun _ h => h.pk [4, 5], ?_⟩)
      refine GD.step (i := 15) (by kernel_rfl) rfl (ot_call hb_45 rfl (callOk fun w hh => begin_b 86 (some ⟨b19, 0, none⟩) 5 5 [(x, (some ⟨b2, 0, none⟩, 32)), (num (UInt64.ofNat nm.size), (A10, c10)), (nm.data.toList, (some ⟨b13, 0, none⟩, c13)), (num ser, (A16, c16)), (key, (kA, kc))] (vbytes x nm key ser) (by simp [cat, vbytes]) w (slr_cl hh (k := 0) rfl rfl) (al (.inr ⟨b2, 0, rfl, Hd.cellsAll (k := 5) rfl w hh⟩) (al (hh.ro (k := 3) rfl) (al (hh.ro (k := 2) rfl) (al (hh.ro (k := 1) rfl) (al (hh.rd0n hk) an))))) rfl (by decide) (by have e : nm.data.toList.length = nm.size := rfl; simp only [vbytes, num_len, List.length_cons, List.length_append, hx, e]; omega)) rfl fun g8 h8 => ⟨.inr fun _ h => h.pk [5, 6], ?_⟩)
      refine GD.pure (i := 16) rfl (fun _ _ => rv_assign rfl) (by kernel_rfl) (by repeat (first | exact noPanicPut_body | exact noPanicPut_cut | exact noPanicPut_cutE | refine noPanicPut_then ?_ | refine noPanicPut_blk ?_)) ?_
      refine GD.done (by kernel_rfl) ?_
      refine GX.then ?_
      refine GC.ret ?_
      refine GX.ret1 rfl (RR.tmp rfl) ?_
      exact fun w9 h => ⟨g8, rfl, by
          have h := h.sel [0] rfl rfl
          exact h, h8⟩
    · refine ot_call hb_46 rfl (callOk fun w hh => number_b _ w) rfl fun g16 _ => ⟨.inr fun _ h => h.pk [2, 3], ?_⟩
      obtain ⟨A16, c16⟩ := g16
      refine GD.step (i := 8) (by kernel_rfl) rfl (ot_convSB (us := byts nm.data.toList) Try.underlying9 Try.underlying28 Try.underlying5 rfl rfl rfl fun b13 c13 => ⟨.inr fun _ h => h.pk [3, 4], ?_⟩)
      refine GD.step (i := 14) (by kernel_rfl) rfl (ot_buildSlice ei_48 rfl rfl rfl rfl rfl rfl fun b19 => ⟨.inr fun _ h => h.pk [4, 5], ?_⟩)
      refine GD.step (i := 15) (by kernel_rfl) rfl (ot_call hb_45 rfl (callOk fun w hh => begin_b 86 (some ⟨b19, 0, none⟩) 5 5 [(x, (some ⟨b2, 0, none⟩, 32)), (num (UInt64.ofNat nm.size), (A10, c10)), (nm.data.toList, (some ⟨b13, 0, none⟩, c13)), (num ser, (A16, c16)), (key, (kA, kc))] (vbytes x nm key ser) (by simp [cat, vbytes]) w (slr_cl hh (k := 0) rfl rfl) (al (.inr ⟨b2, 0, rfl, Hd.cellsAll (k := 5) rfl w hh⟩) (al (hh.ro (k := 3) rfl) (al (hh.ro (k := 1) rfl) (al (hh.ro (k := 2) rfl) (al (hh.rd0n hk) an))))) rfl (by decide) (by have e : nm.data.toList.length = nm.size := rfl; simp only [vbytes, num_len, List.length_cons, List.length_append, hx, e]; omega)) rfl fun g8 h8 => ⟨.inr fun _ h => h.pk [5, 6], ?_⟩)
      refine GD.pure (i := 16) rfl (fun _ _ => rv_assign rfl) (by kernel_rfl) (by repeat (first | exact noPanicPut_body | exact noPanicPut_cut | exact noPanicPut_cutE | refine noPanicPut_then ?_ | refine noPanicPut_blk ?_)) ?_
      refine GD.done (by kernel_rfl) ?_
      refine GX.then ?_
      refine GC.ret ?_
      refine GX.ret1 rfl (RR.tmp rfl) ?_
      exact fun w9 h => ⟨g8, rfl, by
          have h := h.sel [0] rfl rfl
          exact h, h8⟩
  · refine ot_convSB (us := byts nm.data.toList) Try.underlying9 Try.underlying28 Try.underlying5 rfl rfl rfl fun b13 c13 => ⟨.inr fun _ h => h.pk [1, 2], ?_⟩
    refine GD.step (i := 5) (by kernel_rfl) rfl (ot_call hb_46 rfl (callOk fun w hh => number_b _ w) rfl fun g10 _ => ⟨.inr fun _ h => h.pk [2, 3], ?_⟩)
    obtain ⟨A10, c10⟩ := g10
    refine GD.step (i := 11) (by kernel_rfl) rfl (ot_call hb_46 rfl (callOk fun w hh => number_b _ w) rfl fun g16 _ => ⟨.inr fun _ h => h.pk [3, 4], ?_⟩)
    obtain ⟨A16, c16⟩ := g16
    refine GD.step (i := 14) (by kernel_rfl) rfl (ot_buildSlice ei_48 rfl rfl rfl rfl rfl rfl fun b19 => ⟨.inr fun _ h => h.pk [4, 5], ?_⟩)
    refine GD.step (i := 15) (by kernel_rfl) rfl (ot_call hb_45 rfl (callOk fun w hh => begin_b 86 (some ⟨b19, 0, none⟩) 5 5 [(x, (some ⟨b2, 0, none⟩, 32)), (num (UInt64.ofNat nm.size), (A10, c10)), (nm.data.toList, (some ⟨b13, 0, none⟩, c13)), (num ser, (A16, c16)), (key, (kA, kc))] (vbytes x nm key ser) (by simp [cat, vbytes]) w (slr_cl hh (k := 0) rfl rfl) (al (.inr ⟨b2, 0, rfl, Hd.cellsAll (k := 5) rfl w hh⟩) (al (hh.ro (k := 2) rfl) (al (hh.ro (k := 3) rfl) (al (hh.ro (k := 1) rfl) (al (hh.rd0n hk) an))))) rfl (by decide) (by have e : nm.data.toList.length = nm.size := rfl; simp only [vbytes, num_len, List.length_cons, List.length_append, hx, e]; omega)) rfl fun g8 h8 => ⟨.inr fun _ h => h.pk [5, 6], ?_⟩)
    refine GD.pure (i := 16) rfl (fun _ _ => rv_assign rfl) (by kernel_rfl) (by repeat (first | exact noPanicPut_body | exact noPanicPut_cut | exact noPanicPut_cutE | refine noPanicPut_then ?_ | refine noPanicPut_blk ?_)) ?_
    refine GD.done (by kernel_rfl) ?_
    refine GX.then ?_
    refine GC.ret ?_
    refine GX.ret1 rfl (RR.tmp rfl) ?_
    exact fun w9 h => ⟨g8, rfl, by
        have h := h.sel [0] rfl rfl
        exact h, h8⟩
set_option maxRecDepth 100000 in
set_option maxHeartbeats 1000000 in
theorem rvalue_c (x : Sh.B) (nm : ByteArray) (key : Sh.B) (kA : Option Addr) (kc : Nat) (ser : UInt64) (w : World) (hx : x.length = 32) (hk : SlR w kA (byts key)) (hkl : key.length ≤ 1000000) (hnl : nm.size ≤ 1000000) :
    Calls Try.prog 23 [.agg (ws8 x).toArray, .agg (bcell nm key kA kc ser).toArray].toArray w fun e w' => ∃ g : Option Addr × Nat, e = .returned (.slice g.1 (vbytes x nm key ser).length g.2) ∧ St noB w w' [roP g.1 (byts (vbytes x nm key ser))] ∧ (vbytes x nm key ser).length ≤ g.2 := by
  refine GC.calls Try.func23 rfl rfl (St.begin _) ?_
  refine GC.seq ?_
  refine GC.reg ?_
  refine GL.step (ot_box rfl rfl rfl fun b2 => ?_)
  refine GL.step (ot_box rfl rfl rfl fun b3 => ?_)
  refine GL.val (rv_assign rfl) rfl ?_
  refine GL.nil ?_
  refine GX.then ?_
  refine GC.seq ?_
  refine GC.draw 17 [0, 1] mo_ ?_
  refine GD.pure (i := 0) rfl (fun _ _ => rv_to (v' := .slice (some ⟨b2, 0, none⟩) x.length 32) (rv_slA (E := 5) as_24 rfl rfl rfl 0 32 0 rfl rfl (by decide) (by decide) (by decide) rfl) (by rw [hx])) (by kernel_rfl) (by repeat (first | exact noPanicPut_body | exact noPanicPut_cut | exact noPanicPut_cutE | refine noPanicPut_then ?_ | refine noPanicPut_blk ?_)) ?_
  refine GD.pure (i := 1) rfl (fun _ _ => rv_field fo_34_0 rfl rfl) (by kernel_rfl) (by repeat (first | exact noPanicPut_body | exact noPanicPut_cut | exact noPanicPut_cutE | refine noPanicPut_then ?_ | refine noPanicPut_blk ?_)) ?_
  refine GD.pure (i := 6) rfl (fun _ _ => rv_field fo_34_0 rfl rfl) (by kernel_rfl) (by repeat (first | exact noPanicPut_body | exact noPanicPut_cut | exact noPanicPut_cutE | refine noPanicPut_then ?_ | refine noPanicPut_blk ?_)) ?_
  refine GD.pure (i := 9) rfl (fun _ _ => rv_field fo_34_2 rfl rfl) (by kernel_rfl) (by repeat (first | exact noPanicPut_body | exact noPanicPut_cut | exact noPanicPut_cutE | refine noPanicPut_then ?_ | refine noPanicPut_blk ?_)) ?_
  refine GD.pure (i := 12) rfl (fun _ _ => rv_field fo_34_1 rfl rfl) (by kernel_rfl) (by repeat (first | exact noPanicPut_body | exact noPanicPut_cut | exact noPanicPut_cutE | refine noPanicPut_then ?_ | refine noPanicPut_blk ?_)) ?_
  refine GD.read (i := 2) rfl (rv_load ag_9 rfl (by first | exact Hd.cell (k := 0) rfl rfl | exact Hd.rowCell (k := 0) rfl (by assumption))) (by kernel_rfl) (by repeat (first | exact noPanicPut_body | exact noPanicPut_cut | exact noPanicPut_cutE | refine noPanicPut_then ?_ | refine noPanicPut_blk ?_)) ?_
  refine GD.pure (i := 3) rfl (fun _ _ => rv_lenS Try.underlying9 rfl) (by kernel_rfl) (by repeat (first | exact noPanicPut_body | exact noPanicPut_cut | exact noPanicPut_cutE | refine noPanicPut_then ?_ | refine noPanicPut_blk ?_)) ?_
  refine GD.pure (i := 4) rfl (fun _ _ => rv_conv64I (nm.size) Try.underlying3 Try.underlying22 rfl (by first | rfl | omega)) (by kernel_rfl) (by repeat (first | exact noPanicPut_body | exact noPanicPut_cut | exact noPanicPut_cutE | refine noPanicPut_then ?_ | refine noPanicPut_blk ?_)) ?_
  refine GD.read (i := 7) rfl (rv_load ag_9 rfl (by first | exact Hd.cell (k := 0) rfl rfl | exact Hd.rowCell (k := 0) rfl (by assumption))) (by kernel_rfl) (by repeat (first | exact noPanicPut_body | exact noPanicPut_cut | exact noPanicPut_cutE | refine noPanicPut_then ?_ | refine noPanicPut_blk ?_)) ?_
  refine GD.read (i := 10) rfl (rv_load ag_22 rfl (by first | exact Hd.cell (k := 0) rfl rfl | exact Hd.rowCell (k := 0) rfl (by assumption))) (by kernel_rfl) (by repeat (first | exact noPanicPut_body | exact noPanicPut_cut | exact noPanicPut_cutE | refine noPanicPut_then ?_ | refine noPanicPut_blk ?_)) ?_
  refine GD.read (i := 13) rfl (rv_load ag_28 rfl (by first | exact Hd.cell (k := 0) rfl rfl | exact Hd.rowCell (k := 0) rfl (by assumption))) (by kernel_rfl) (by repeat (first | exact noPanicPut_body | exact noPanicPut_cut | exact noPanicPut_cutE | refine noPanicPut_then ?_ | refine noPanicPut_blk ?_)) ?_
  refine GD.eachN2 (i := 5) (j := 8) (by kernel_rfl) rfl rfl ?_ ?_
  · refine ot_call hb_49 rfl (callOk fun w hh => rnumber_b _ w) rfl fun g10 _ => ⟨.inr fun _ h => h.pk [1, 2], ?_⟩
    obtain ⟨A10, c10⟩ := g10
    refine GD.eachN2 (i := 8) (j := 11) (by kernel_rfl) rfl rfl ?_ ?_
    · refine ot_convSB (us := byts nm.data.toList) Try.underlying9 Try.underlying28 Try.underlying5 rfl rfl rfl fun b13 c13 => ⟨.inr fun _ h => h.pk [2, 3], ?_⟩
      refine GD.step (i := 11) (by kernel_rfl) rfl (ot_call hb_49 rfl (callOk fun w hh => rnumber_b _ w) rfl fun g16 _ => ⟨.inr fun _ h => h.pk [3, 4], ?_⟩)
      obtain ⟨A16, c16⟩ := g16
      refine GD.step (i := 14) (by kernel_rfl) rfl (ot_buildSlice ei_48 rfl rfl rfl rfl rfl rfl fun b19 => ⟨.inr fun _ h => h.pk [4, 5], ?_⟩)
      refine GD.step (i := 15) (by kernel_rfl) rfl (ot_call hb_48 rfl (callOk fun w hh => sign_c 86 (some ⟨b19, 0, none⟩) 5 5 [(x, (some ⟨b2, 0, none⟩, 32)), (num (UInt64.ofNat nm.size), (A10, c10)), (nm.data.toList, (some ⟨b13, 0, none⟩, c13)), (num ser, (A16, c16)), (key, (kA, kc))] (vbytes x nm key ser) (by simp [cat, vbytes]) w (slr_cl hh (k := 0) rfl rfl) (al (.inr ⟨b2, 0, rfl, Hd.cellsAll (k := 5) rfl w hh⟩) (al (hh.ro (k := 3) rfl) (al (hh.ro (k := 2) rfl) (al (hh.ro (k := 1) rfl) (al (hh.rd0n hk) an))))) rfl (by decide) (by have e : nm.data.toList.length = nm.size := rfl; simp only [vbytes, num_len, List.length_cons, List.length_append, hx, e]; omega)) rfl fun g8 h8 => ⟨.inr fun _ h => h.pk [5, 6], ?_⟩)
      refine GD.pure (i := 16) rfl (fun _ _ => rv_assign rfl) (by kernel_rfl) (by repeat (first | exact noPanicPut_body | exact noPanicPut_cut | exact noPanicPut_cutE | refine noPanicPut_then ?_ | refine noPanicPut_blk ?_)) ?_
      refine GD.done (by kernel_rfl) ?_
      refine GX.then ?_
      refine GC.ret ?_
      refine GX.ret1 rfl (RR.tmp rfl) ?_
      exact fun w9 h => ⟨g8, rfl, by
          have h := h.sel [0] rfl rfl
          exact h, h8⟩
    · refine ot_call hb_49 rfl (callOk fun w hh => rnumber_b _ w) rfl fun g16 _ => ⟨.inr fun _ h => h.pk [2, 3], ?_⟩
      obtain ⟨A16, c16⟩ := g16
      refine GD.step (i := 8) (by kernel_rfl) rfl (ot_convSB (us := byts nm.data.toList) Try.underlying9 Try.underlying28 Try.underlying5 rfl rfl rfl fun b13 c13 => ⟨.inr fun _ h => h.pk [3, 4], ?_⟩)
      refine GD.step (i := 14) (by kernel_rfl) rfl (ot_buildSlice ei_48 rfl rfl rfl rfl rfl rfl fun b19 => ⟨.inr fun _ h => h.pk [4, 5], ?_⟩)
      refine GD.step (i := 15) (by kernel_rfl) rfl (ot_call hb_48 rfl (callOk fun w hh => sign_c 86 (some ⟨b19, 0, none⟩) 5 5 [(x, (some ⟨b2, 0, none⟩, 32)), (num (UInt64.ofNat nm.size), (A10, c10)), (nm.data.toList, (some ⟨b13, 0, none⟩, c13)), (num ser, (A16, c16)), (key, (kA, kc))] (vbytes x nm key ser) (by simp [cat, vbytes]) w (slr_cl hh (k := 0) rfl rfl) (al (.inr ⟨b2, 0, rfl, Hd.cellsAll (k := 5) rfl w hh⟩) (al (hh.ro (k := 3) rfl) (al (hh.ro (k := 1) rfl) (al (hh.ro (k := 2) rfl) (al (hh.rd0n hk) an))))) rfl (by decide) (by have e : nm.data.toList.length = nm.size := rfl; simp only [vbytes, num_len, List.length_cons, List.length_append, hx, e]; omega)) rfl fun g8 h8 => ⟨.inr fun _ h => h.pk [5, 6], ?_⟩)
      refine GD.pure (i := 16) rfl (fun _ _ => rv_assign rfl) (by kernel_rfl) (by repeat (first | exact noPanicPut_body | exact noPanicPut_cut | exact noPanicPut_cutE | refine noPanicPut_then ?_ | refine noPanicPut_blk ?_)) ?_
      refine GD.done (by kernel_rfl) ?_
      refine GX.then ?_
      refine GC.ret ?_
      refine GX.ret1 rfl (RR.tmp rfl) ?_
      exact fun w9 h => ⟨g8, rfl, by
          have h := h.sel [0] rfl rfl
          exact h, h8⟩
  · refine ot_convSB (us := byts nm.data.toList) Try.underlying9 Try.underlying28 Try.underlying5 rfl rfl rfl fun b13 c13 => ⟨.inr fun _ h => h.pk [1, 2], ?_⟩
    refine GD.step (i := 5) (by kernel_rfl) rfl (ot_call hb_49 rfl (callOk fun w hh => rnumber_b _ w) rfl fun g10 _ => ⟨.inr fun _ h => h.pk [2, 3], ?_⟩)
    obtain ⟨A10, c10⟩ := g10
    refine GD.step (i := 11) (by kernel_rfl) rfl (ot_call hb_49 rfl (callOk fun w hh => rnumber_b _ w) rfl fun g16 _ => ⟨.inr fun _ h => h.pk [3, 4], ?_⟩)
    obtain ⟨A16, c16⟩ := g16
    refine GD.step (i := 14) (by kernel_rfl) rfl (ot_buildSlice ei_48 rfl rfl rfl rfl rfl rfl fun b19 => ⟨.inr fun _ h => h.pk [4, 5], ?_⟩)
    refine GD.step (i := 15) (by kernel_rfl) rfl (ot_call hb_48 rfl (callOk fun w hh => sign_c 86 (some ⟨b19, 0, none⟩) 5 5 [(x, (some ⟨b2, 0, none⟩, 32)), (num (UInt64.ofNat nm.size), (A10, c10)), (nm.data.toList, (some ⟨b13, 0, none⟩, c13)), (num ser, (A16, c16)), (key, (kA, kc))] (vbytes x nm key ser) (by simp [cat, vbytes]) w (slr_cl hh (k := 0) rfl rfl) (al (.inr ⟨b2, 0, rfl, Hd.cellsAll (k := 5) rfl w hh⟩) (al (hh.ro (k := 2) rfl) (al (hh.ro (k := 3) rfl) (al (hh.ro (k := 1) rfl) (al (hh.rd0n hk) an))))) rfl (by decide) (by have e : nm.data.toList.length = nm.size := rfl; simp only [vbytes, num_len, List.length_cons, List.length_append, hx, e]; omega)) rfl fun g8 h8 => ⟨.inr fun _ h => h.pk [5, 6], ?_⟩)
    refine GD.pure (i := 16) rfl (fun _ _ => rv_assign rfl) (by kernel_rfl) (by repeat (first | exact noPanicPut_body | exact noPanicPut_cut | exact noPanicPut_cutE | refine noPanicPut_then ?_ | refine noPanicPut_blk ?_)) ?_
    refine GD.done (by kernel_rfl) ?_
    refine GX.then ?_
    refine GC.ret ?_
    refine GX.ret1 rfl (RR.tmp rfl) ?_
    exact fun w9 h => ⟨g8, rfl, by
        have h := h.sel [0] rfl rfl
        exact h, h8⟩
set_option maxRecDepth 100000 in
set_option maxHeartbeats 1000000 in
theorem empty_c (w : World) : Calls Try.prog 25 [].toArray w fun e w' => ∃ g : Option Addr × Nat, e = .returned (.slice g.1 ([69]).length g.2) ∧ St noB w w' [roP g.1 (byts ([69]))] ∧ ([69]).length ≤ g.2 := by
  refine GC.calls Try.func25 rfl rfl (St.begin _) ?_
  refine GC.seq ?_
  refine GC.reg ?_
  refine GL.val (rv_assign rfl) rfl ?_
  refine GL.nil ?_
  refine GX.then ?_
  refine GC.seq ?_
  refine GC.reg ?_
  refine GL.step (ot_call hb_45 rfl (callOk fun w hh => begin_b 69 none 0 0 [] [69] rfl w (.inl rfl) an rfl (by decide) (by decide)) rfl fun g8 h8 => ?_)
  refine GL.val (rv_assign rfl) rfl ?_
  refine GL.nil ?_
  refine GX.then ?_
  refine GC.ret ?_
  refine GX.ret1 rfl (RR.tmp rfl) ?_
  exact fun w9 h => ⟨g8, rfl, by
      exact h, h8⟩
set_option maxRecDepth 100000 in
set_option maxHeartbeats 1000000 in
theorem rempty_c (w : World) : Calls Try.prog 26 [].toArray w fun e w' => ∃ g : Option Addr × Nat, e = .returned (.slice g.1 ([69]).length g.2) ∧ St noB w w' [roP g.1 (byts ([69]))] ∧ ([69]).length ≤ g.2 := by
  refine GC.calls Try.func26 rfl rfl (St.begin _) ?_
  refine GC.seq ?_
  refine GC.reg ?_
  refine GL.val (rv_assign rfl) rfl ?_
  refine GL.nil ?_
  refine GX.then ?_
  refine GC.seq ?_
  refine GC.reg ?_
  refine GL.step (ot_buildSlice ei_28 rfl rfl rfl rfl rfl rfl fun b1 => ?_)
  refine GL.val (rv_assign rfl) rfl ?_
  refine GL.nil ?_
  refine GX.then ?_
  refine GC.ret ?_
  refine GX.ret1 rfl (RR.tmp rfl) ?_
  exact fun w9 h => ⟨(some ⟨b1, 0, none⟩, 1), rfl, by
      have h := (h.clRow (k := 0) (n' := 1) (sz := 1) rfl rfl (by omega)).rowRo (k := 0) rfl
      exact h, (Nat.le_refl _)⟩
set_option maxRecDepth 100000 in
set_option maxHeartbeats 1000000 in
theorem sameb_c (A B : Option Addr) (c d n m : Nat) (a b : List UInt8) (w : World) (hR : SlR w A (byts a)) (hR' : SlR w B (byts b)) (hl : a.length = n) (hl' : b.length = m) :
    Calls Try.prog 13 [.slice A n c, .slice B m d].toArray w fun e w' => ∃ _g : Unit, e = .returned (.bool (decide (a = b))) ∧ St noB w w' [] ∧ True := by
  refine GC.calls Try.func13 rfl rfl (St.begin _) ?_
  refine GC.seq ?_
  refine GC.reg ?_
  refine GL.val (rv_assign rfl) rfl ?_
  refine GL.nil ?_
  refine GX.then ?_
  refine GC.seq ?_
  refine GC.reg ?_
  refine GL.val (rv_move rfl) rfl ?_
  refine GL.val (rv_convBS Try.underlying28 Try.underlying5 Try.underlying9 rfl (fun w h => h.rd0n hR) hl) rfl ?_
  refine GL.val (rv_move rfl) rfl ?_
  refine GL.val (rv_convBS Try.underlying28 Try.underlying5 Try.underlying9 rfl (fun w h => h.rd0n hR') hl') rfl ?_
  refine GL.val (rv_eqS rfl rfl) rfl ?_
  refine GL.val (rv_assign rfl) rfl ?_
  refine GL.nil ?_
  refine GX.then ?_
  refine GC.ret ?_
  refine GX.ret1 rfl (RR.tmp rfl) ?_
  exact fun w9 h => ⟨(), (by rw [show decide (a = b) = decide ((⟨a.toArray⟩ : ByteArray) = ⟨b.toArray⟩) from decide_eq_decide.2 ba_inj.symm]), by
      exact h, trivial⟩
set_option maxRecDepth 100000 in
set_option maxHeartbeats 1000000 in
theorem of_c (l c : Nat) (A : Option Addr) (bs : Sh.B) (w : World) (hR : SlR w A (byts bs)) (hl : bs.length = l) (hc : l ≤ c) (hbig : l < 70368744177664) :
    Calls Try.prog 47 [.slice A l c].toArray w fun e w' => ∃ _g : Unit, e = .returned (.agg (ws8 (Sh.sum bs)).toArray) ∧ St noB w w' [] ∧ True := by
  refine GC.calls Try.func47 rfl rfl (St.begin _) ?_
  refine GC.seq ?_
  refine GC.reg ?_
  refine GL.step (ot_alloc (zs := ws8 (List.replicate 32 0)) zb_24 (rfl) rfl fun b2 => ?_)
  refine GL.nil ?_
  refine GX.then ?_
  refine GC.seq ?_
  refine GC.reg ?_
  refine GL.val (rv_move rfl) rfl ?_
  refine GL.step (ot_call hb_58 rfl (callOk fun w hh => sum_c l c A bs w (hh.rd0n hR) hl hc (by omega)) rfl fun _ _ => ?_)
  refine GL.step (ot_storeA (k := 0) rfl rfl rfl rfl (by exact sz_24) (by first | (simp only [ws8_len, Sh.sum_len, List.length_replicate]) | rfl) (by first | (simp only [ws8_len, Sh.sum_len, List.length_replicate]) | rfl) (by first | exact ws8_one _ | rfl) ?_)
  refine GL.nil ?_
  refine GX.then ?_
  refine GC.ret ?_
  refine GX.ret1 rfl (RR.cellL ag_24 rfl (by first | exact Hd.cellsAll (k := 0) rfl | exact Hd.cells (k := 0) rfl rfl) (by exact sz_24) (by first | (simp only [ws8_len, Sh.sum_len, List.length_replicate]) | rfl)) ?_
  exact fun w9 h => ⟨(), rfl, by
      have h := h.sel [] rfl rfl
      exact h, trivial⟩
set_option maxRecDepth 100000 in
set_option maxHeartbeats 1000000 in
theorem rof_c (l c : Nat) (A : Option Addr) (bs : Sh.B) (w : World) (hR : SlR w A (byts bs)) (hl : bs.length = l) (hc : l ≤ c) (hbig : l < 70368744177664) :
    Calls Try.prog 57 [.slice A l c].toArray w fun e w' => ∃ _g : Unit, e = .returned (.agg (ws8 (Sh.sum bs)).toArray) ∧ St noB w w' [] ∧ True := by
  refine GC.calls Try.func57 rfl rfl (St.begin _) ?_
  refine GC.seq ?_
  refine GC.reg ?_
  refine GL.step (ot_alloc (zs := ws8 (List.replicate 32 0)) zb_24 (rfl) rfl fun b2 => ?_)
  refine GL.nil ?_
  refine GX.then ?_
  refine GC.seq ?_
  refine GC.reg ?_
  refine GL.val (rv_move rfl) rfl ?_
  refine GL.step (ot_call hb_35 rfl (callOk fun w hh => rsum_c l c A bs w (hh.rd0n hR) hl (by omega)) rfl fun _ _ => ?_)
  refine GL.step (ot_storeA (k := 0) rfl rfl rfl rfl (by exact sz_24) (by first | (simp only [ws8_len, Sh.sum_len, List.length_replicate]) | rfl) (by first | (simp only [ws8_len, Sh.sum_len, List.length_replicate]) | rfl) (by first | exact ws8_one _ | rfl) ?_)
  refine GL.nil ?_
  refine GX.then ?_
  refine GC.ret ?_
  refine GX.ret1 rfl (RR.cellL ag_24 rfl (by first | exact Hd.cellsAll (k := 0) rfl | exact Hd.cells (k := 0) rfl rfl) (by exact sz_24) (by first | (simp only [ws8_len, Sh.sum_len, List.length_replicate]) | rfl)) ?_
  exact fun w9 h => ⟨(), rfl, by
      have h := h.sel [] rfl rfl
      exact h, trivial⟩
end Go.Proofs.Ytaocclmdlpnjbaa
