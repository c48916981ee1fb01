import Derived.Test.YtkifeeiafachpaaCat
import Derived.Test.YtkifeeiafachpaaSha
import Derived.Test.YtkifeeiafachpaaRows
set_option linter.unusedVariables false
set_option linter.unusedSimpArgs false
namespace Go.Proofs.Ytkifeeiafachpaa
open Go Go.RowKit Go.Bz
theorem ag_120 : aggB Try.prog 120 = some true := by kernel_rfl
theorem ag_125 : aggB Try.prog 125 = some true := by kernel_rfl
theorem ag_5 : aggB Try.prog 5 = some false := by kernel_rfl
theorem as_120 : arrSz Try.prog 120 = some (8, 1) := by kernel_rfl
theorem as_125 : arrSz Try.prog 125 = some (64, 1) := by kernel_rfl
theorem es_27 : elemSz Try.prog 27 = some 1 := by kernel_rfl
theorem mo_ : Try.prog.follows .mixedOrders = true := by kernel_rfl
theorem sz_120 : (Try.prog.info? 120).map (·.size) = some 8 := by kernel_rfl
theorem sz_125 : (Try.prog.info? 125).map (·.size) = some 64 := by kernel_rfl
theorem zb_120 : zeroB Try.prog 120 = some (.agg #[.int .u32 0, .int .u32 0, .int .u32 0, .int .u32 0, .int .u32 0, .int .u32 0, .int .u32 0, .int .u32 0]) := by kernel_rfl
theorem zb_125 : zeroB Try.prog 125 = some (.agg #[.int .u32 0, .int .u32 0, .int .u32 0, .int .u32 0, .int .u32 0, .int .u32 0, .int .u32 0, .int .u32 0, .int .u32 0, .int .u32 0, .int .u32 0, .int .u32 0, .int .u32 0, .int .u32 0, .int .u32 0, .int .u32 0, .int .u32 0, .int .u32 0, .int .u32 0, .int .u32 0, .int .u32 0, .int .u32 0, .int .u32 0, .int .u32 0, .int .u32 0, .int .u32 0, .int .u32 0, .int .u32 0, .int .u32 0, .int .u32 0, .int .u32 0, .int .u32 0, .int .u32 0, .int .u32 0, .int .u32 0, .int .u32 0, .int .u32 0, .int .u32 0, .int .u32 0, .int .u32 0, .int .u32 0, .int .u32 0, .int .u32 0, .int .u32 0, .int .u32 0, .int .u32 0, .int .u32 0, .int .u32 0, .int .u32 0, .int .u32 0, .int .u32 0, .int .u32 0, .int .u32 0, .int .u32 0, .int .u32 0, .int .u32 0, .int .u32 0, .int .u32 0, .int .u32 0, .int .u32 0, .int .u32 0, .int .u32 0, .int .u32 0, .int .u32 0]) := by kernel_rfl
set_option maxRecDepth 100000 in
set_option maxHeartbeats 1000000 in
theorem rot_c (x : UInt32) (r : Nat) (h0 : 0 < r) (h1 : r < 32) (w : World) :
    Calls Try.prog 94 [v32 x, .int .i64 (-(r : Int))].toArray w fun e w' => ∃ _g : Unit, e = .returned (v32 (Sh.rotr x r)) ∧ St noB w w' [] ∧ True := by
  refine GC.calls Try.func94 rfl rfl (St.begin _) ?_
  refine GC.seq ?_
  refine GC.reg ?_
  refine GL.val (rv_assign rfl) rfl ?_
  refine GL.nil ?_
  refine GX.then ?_
  refine GC.seq ?_
  refine GC.reg ?_
  refine GL.val (rv_move rfl) rfl ?_
  refine GL.val (rv_to (v' := v64 (UInt64.ofNat (18446744073709551616 - r))) (rv_convI Try.underlying3 Try.underlying99 rfl) (by congr 1; rw [Bz.wrap64, UInt64.toNat_ofNat']; omega)) rfl ?_
  refine GL.val (rv_to (v' := .int .u64 ((32 - r : Nat) : Int)) (rv_and64 (b := 31) rfl rfl) (congrArg (fun q : Nat => Value.int .u64 (q : Int)) (Sh.rot_and r h1 h0))) rfl ?_
  refine GL.val (rv_assign rfl) rfl ?_
  refine GL.nil ?_
  refine GX.then ?_
  refine GC.seq ?_
  refine GC.reg ?_
  refine GL.val (rv_move rfl) rfl ?_
  refine GL.val (rv_move rfl) rfl ?_
  refine GL.val (rv_shl32 (32 - r) rfl rfl (by first | rfl | omega) (by first | decide | omega)) rfl ?_
  refine GL.val (rv_move rfl) rfl ?_
  refine GL.val (rv_move rfl) rfl ?_
  refine GL.val (rv_subW (v := .int .u64 (r : Int)) rfl rfl (by congr 1; rw [Bz.wrap64]; omega)) rfl ?_
  refine GL.val (rv_shr32 (r) rfl rfl (by first | rfl | omega) (by first | decide | omega)) rfl ?_
  refine GL.val (rv_or32 rfl rfl) rfl ?_
  refine GL.val (rv_assign rfl) rfl ?_
  refine GL.nil ?_
  refine GX.then ?_
  refine GC.ret ?_
  refine GX.ret1 rfl (RR.tmp rfl) ?_
  exact fun w9 h => ⟨(), (by unfold Sh.rotr; rw [UInt32.or_comm]), by
      exact h, trivial⟩
set_option maxRecDepth 100000 in
set_option maxHeartbeats 1000000 in
theorem turn_c (x : UInt32) (r : Nat) (h0 : 0 < r) (h1 : r < 32) (w : World) :
    Calls Try.prog 97 [v32 x, .int .i64 (r : Int)].toArray w fun e w' => ∃ _g : Unit, e = .returned (v32 (Sh.rotr x r)) ∧ St noB w w' [] ∧ True := by
  refine GC.calls Try.func97 rfl rfl (St.begin _) ?_
  refine GC.seq ?_
  refine GC.reg ?_
  refine GL.val (rv_assign rfl) rfl ?_
  refine GL.nil ?_
  refine GX.then ?_
  refine GC.seq ?_
  refine GC.reg ?_
  refine GL.val (rv_move rfl) rfl ?_
  refine GL.val (rv_move rfl) rfl ?_
  refine GL.val (rv_to (v' := .int .u64 (r : Int)) (rv_convI Try.underlying3 Try.underlying99 rfl) (by congr 1; rw [Bz.wrap64]; omega)) rfl ?_
  refine GL.val (rv_shr32 (r) rfl rfl (by first | rfl | omega) (by first | decide | omega)) rfl ?_
  refine GL.val (rv_move rfl) rfl ?_
  refine GL.val (rv_move rfl) rfl ?_
  refine GL.val (rv_sub rfl rfl (by omega) (by omega)) rfl ?_
  refine GL.val (rv_to (v' := .int .u64 ((32 - r : Nat) : Int)) (rv_convI Try.underlying3 Try.underlying99 rfl) (by congr 1; rw [Bz.wrap64]; omega)) rfl ?_
  refine GL.val (rv_shl32 (32 - r) rfl rfl (by first | rfl | omega) (by first | decide | omega)) rfl ?_
  refine GL.val (rv_or32 rfl rfl) rfl ?_
  refine GL.val (rv_assign rfl) rfl ?_
  refine GL.nil ?_
  refine GX.then ?_
  refine GC.ret ?_
  refine GX.ret1 rfl (RR.tmp rfl) ?_
  exact fun w9 h => ⟨(), rfl, by
      exact h, trivial⟩
set_option maxRecDepth 100000 in
set_option maxHeartbeats 1000000 in
theorem word_c (b o q n c : Nat) (bs : Sh.B) (w : World) (hC : Cells w b o (byts bs)) (hq : q + 4 ≤ bs.length) (hn : 4 ≤ n) :
    Calls Try.prog 98 [.slice (some ⟨b, o + q, none⟩) n c].toArray w fun e w' => ∃ _g : Unit, e = .returned (v32 (Sh.wordAt bs q)) ∧ St noB w w' [] ∧ True := by
  refine GC.calls Try.func98 rfl rfl (St.begin _) ?_
  refine GC.seq ?_
  refine GC.reg ?_
  refine GL.val (rv_assign rfl) rfl ?_
  refine GL.nil ?_
  refine GX.then ?_
  refine GC.seq ?_
  refine GC.draw 23 [] mo_ ?_
  refine GD.pure1 (i := 0) rfl (fun _ _ => rv_move rfl) ?_
  refine GD.pure1 (i := 1) rfl (fun _ _ => rv_elemJ (q := o + (q + 0)) 0 es_27 rfl rfl rfl (by omega) (by omega)) ?_
  refine GD.pure1 (i := 5) rfl (fun _ _ => rv_move rfl) ?_
  refine GD.pure1 (i := 6) rfl (fun _ _ => rv_elemJ (q := o + (q + 1)) 1 es_27 rfl rfl rfl (by omega) (by omega)) ?_
  refine GD.pure1 (i := 11) rfl (fun _ _ => rv_move rfl) ?_
  refine GD.pure1 (i := 12) rfl (fun _ _ => rv_elemJ (q := o + (q + 2)) 2 es_27 rfl rfl rfl (by omega) (by omega)) ?_
  refine GD.pure1 (i := 17) rfl (fun _ _ => rv_move rfl) ?_
  refine GD.pure1 (i := 18) rfl (fun _ _ => rv_elemJ (q := o + (q + 3)) 3 es_27 rfl rfl rfl (by omega) (by omega)) ?_
  refine GD.read1 (i := 2) rfl (rv_load ag_5 rfl (Hd.cell0 (Sh.byC hC (j := q + 0) (by omega)) (fun h => h))) ?_
  refine GD.pure1 (i := 3) rfl (fun _ _ => rv_c8_32 Try.underlying5 Try.underlying119 rfl) ?_
  refine GD.pure1 (i := 4) rfl (fun _ _ => rv_shl32 (24) rfl rfl (by first | rfl | omega) (by first | decide | omega)) ?_
  refine GD.read1 (i := 7) rfl (rv_load ag_5 rfl (Hd.cell0 (Sh.byC hC (j := q + 1) (by omega)) (fun h => h))) ?_
  refine GD.pure1 (i := 8) rfl (fun _ _ => rv_c8_32 Try.underlying5 Try.underlying119 rfl) ?_
  refine GD.pure1 (i := 9) rfl (fun _ _ => rv_shl32 (16) rfl rfl (by first | rfl | omega) (by first | decide | omega)) ?_
  refine GD.pure1 (i := 10) rfl (fun _ _ => rv_or32 rfl rfl) ?_
  refine GD.read1 (i := 13) rfl (rv_load ag_5 rfl (Hd.cell0 (Sh.byC hC (j := q + 2) (by omega)) (fun h => h))) ?_
  refine GD.pure1 (i := 14) rfl (fun _ _ => rv_c8_32 Try.underlying5 Try.underlying119 rfl) ?_
  refine GD.pure1 (i := 15) rfl (fun _ _ => rv_shl32 (8) rfl rfl (by first | rfl | omega) (by first | decide | omega)) ?_
  refine GD.pure1 (i := 16) rfl (fun _ _ => rv_or32 rfl rfl) ?_
  refine GD.step (i := 19) (by kernel_rfl) rfl (ot_val (rv_load ag_5 rfl (Hd.cell0 (Sh.byC hC (j := q + 3) (by omega)) (fun h => h))) rfl ⟨.inr fun _ h => h.pk [], ?_⟩)
  refine GD.pure1 (i := 20) rfl (fun _ _ => rv_c8_32 Try.underlying5 Try.underlying119 rfl) ?_
  refine GD.pure1 (i := 21) rfl (fun _ _ => rv_or32 rfl rfl) ?_
  refine GD.pure1 (i := 22) rfl (fun _ _ => rv_assign rfl) ?_
  refine GD.done (by kernel_rfl) ?_
  refine GX.then ?_
  refine GC.ret ?_
  refine GX.ret1 rfl (RR.tmp rfl) ?_
  exact fun w9 h => ⟨(), rfl, by
      exact h, trivial⟩
set_option maxRecDepth 100000 in
set_option maxHeartbeats 1000000 in
theorem factors_c (w : World) : Calls Try.prog 93 [].toArray w fun e w' => ∃ _g : Unit, e = .returned (.agg (ws32 Sh.K64).toArray) ∧ St noB w w' [] ∧ True := by
  refine GC.calls Try.func93 rfl rfl (St.begin _) ?_
  refine GC.seq ?_
  refine GC.reg ?_
  refine GL.step (ot_alloc (zs := ws32 (List.replicate 64 0)) zb_125 (rfl) rfl fun b0 => ?_)
  refine GL.nil ?_
  refine GX.then ?_
  refine GC.seq ?_
  refine GC.reg ?_
  refine GL.val (rv_buildA as_125 zb_125 rfl rfl rfl rfl) rfl ?_
  refine GL.step (ot_storeA (k := 0) rfl rfl rfl rfl (by exact sz_125) (by first | (fail) | rfl) (by first | (fail) | rfl) (by first | exact ws32_one _ | rfl) ?_)
  refine GL.nil ?_
  refine GX.then ?_
  refine GC.ret ?_
  refine GX.ret1 rfl (RR.cellL ag_125 rfl (by first | exact Hd.cellsAll (k := 0) rfl | exact Hd.cells (k := 0) rfl rfl) (by exact sz_125) (by first | (fail) | rfl)) ?_
  exact fun w9 h => ⟨(), rfl, by
      have h := h.sel [] rfl rfl
      exact h, trivial⟩
set_option maxRecDepth 100000 in
set_option maxHeartbeats 1000000 in
theorem round_c (w : World) : Calls Try.prog 96 [].toArray w fun e w' => ∃ _g : Unit, e = .returned (.agg (ws32 Sh.K64).toArray) ∧ St noB w w' [] ∧ True := by
  refine GC.calls Try.func96 rfl rfl (St.begin _) ?_
  refine GC.seq ?_
  refine GC.reg ?_
  refine GL.step (ot_alloc (zs := ws32 (List.replicate 64 0)) zb_125 (rfl) rfl fun b0 => ?_)
  refine GL.nil ?_
  refine GX.then ?_
  refine GC.seq ?_
  refine GC.reg ?_
  refine GL.val (rv_buildA as_125 zb_125 rfl rfl rfl rfl) rfl ?_
  refine GL.step (ot_storeA (k := 0) rfl rfl rfl rfl (by exact sz_125) (by first | (fail) | rfl) (by first | (fail) | rfl) (by first | exact ws32_one _ | rfl) ?_)
  refine GL.nil ?_
  refine GX.then ?_
  refine GC.ret ?_
  refine GX.ret1 rfl (RR.cellL ag_125 rfl (by first | exact Hd.cellsAll (k := 0) rfl | exact Hd.cells (k := 0) rfl rfl) (by exact sz_125) (by first | (fail) | rfl)) ?_
  exact fun w9 h => ⟨(), rfl, by
      have h := h.sel [] rfl rfl
      exact h, trivial⟩
set_option maxRecDepth 100000 in
set_option maxHeartbeats 1000000 in
theorem first_c (w : World) : Calls Try.prog 89 [].toArray w fun e w' => ∃ _g : Unit, e = .returned (.agg (ws32 Sh.H0).toArray) ∧ St noB w w' [] ∧ True := by
  refine GC.calls Try.func89 rfl rfl (St.begin _) ?_
  refine GC.seq ?_
  refine GC.reg ?_
  refine GL.step (ot_alloc (zs := ws32 (List.replicate 8 0)) zb_120 (rfl) rfl fun b0 => ?_)
  refine GL.nil ?_
  refine GX.then ?_
  refine GC.seq ?_
  refine GC.reg ?_
  refine GL.val (rv_buildA as_120 zb_120 rfl rfl rfl rfl) rfl ?_
  refine GL.step (ot_storeA (k := 0) rfl rfl rfl rfl (by exact sz_120) (by first | (fail) | rfl) (by first | (fail) | rfl) (by first | exact ws32_one _ | rfl) ?_)
  refine GL.nil ?_
  refine GX.then ?_
  refine GC.ret ?_
  refine GX.ret1 rfl (RR.cellL ag_120 rfl (by first | exact Hd.cellsAll (k := 0) rfl | exact Hd.cells (k := 0) rfl rfl) (by exact sz_120) (by first | (fail) | rfl)) ?_
  exact fun w9 h => ⟨(), rfl, by
      have h := h.sel [] rfl rfl
      exact h, trivial⟩
end Go.Proofs.Ytkifeeiafachpaa
