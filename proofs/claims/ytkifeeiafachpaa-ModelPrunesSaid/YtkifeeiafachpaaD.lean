import Derived.Test.YtkifeeiafachpaaC
set_option linter.unusedVariables false
set_option linter.unusedSimpArgs false
namespace Go.Proofs.Ytkifeeiafachpaa
open Go Go.RowKit Go.Bz
theorem ag_122 : aggB Try.prog 122 = some true := by kernel_rfl
theorem ei_27 : elemInfo Try.prog 27 = some (5, 1, 1) := by kernel_rfl
theorem pl_122 : placesB Try.prog 122 = some [(0, 8), (8, 64), (72, 1), (73, 1)] := by kernel_rfl
theorem sz_122 : (Try.prog.info? 122).map (·.size) = some 74 := by kernel_rfl
theorem zb_122 : zeroB Try.prog 122 = some (.agg #[.int .u32 0, .int .u32 0, .int .u32 0, .int .u32 0, .int .u32 0, .int .u32 0, .int .u32 0, .int .u32 0, .int .u8 0, .int .u8 0, .int .u8 0, .int .u8 0, .int .u8 0, .int .u8 0, .int .u8 0, .int .u8 0, .int .u8 0, .int .u8 0, .int .u8 0, .int .u8 0, .int .u8 0, .int .u8 0, .int .u8 0, .int .u8 0, .int .u8 0, .int .u8 0, .int .u8 0, .int .u8 0, .int .u8 0, .int .u8 0, .int .u8 0, .int .u8 0, .int .u8 0, .int .u8 0, .int .u8 0, .int .u8 0, .int .u8 0, .int .u8 0, .int .u8 0, .int .u8 0, .int .u8 0, .int .u8 0, .int .u8 0, .int .u8 0, .int .u8 0, .int .u8 0, .int .u8 0, .int .u8 0, .int .u8 0, .int .u8 0, .int .u8 0, .int .u8 0, .int .u8 0, .int .u8 0, .int .u8 0, .int .u8 0, .int .u8 0, .int .u8 0, .int .u8 0, .int .u8 0, .int .u8 0, .int .u8 0, .int .u8 0, .int .u8 0, .int .u8 0, .int .u8 0, .int .u8 0, .int .u8 0, .int .u8 0, .int .u8 0, .int .u8 0, .int .u8 0, .int .i64 0, .int .u64 0]) := by kernel_rfl
set_option maxRecDepth 100000 in
set_option maxHeartbeats 1000000 in
theorem rpad_c (n : UInt64) (w : World) : Calls Try.prog 88 [v64 n].toArray w fun e w' => ∃ g : Option Addr × Nat, e = .returned (.slice g.1 (1 + Sh.padz n + 8) g.2) ∧ St noB w w' [.row g.1 g.2 5 1 (1 + Sh.padz n + 8) (byts (Sh.pad n))] ∧ True := by
  refine GC.calls Try.func88 rfl rfl (St.begin _) ?_
  have hz64 : Sh.padz n < 64 := Nat.mod_lt _ (by omega)
  refine GC.seq ?_
  refine GC.reg ?_
  refine GL.val (rv_assign rfl) rfl ?_
  refine GL.nil ?_
  refine GX.then ?_
  refine GC.seq ?_
  refine GC.reg ?_
  refine GL.val (rv_assign rfl) rfl ?_
  refine GL.nil ?_
  refine GX.then ?_
  refine GC.seq ?_
  refine GC.st (Fs' := _) (fun w9 h => by
    have h := h.sel [] rfl rfl
    have h := h.nilRow 5 1
    exact h) ?_
  refine GC.reg ?_
  refine GL.val (rv_move rfl) rfl ?_
  refine GL.step (ot_buildSlice ei_27 rfl rfl rfl rfl rfl rfl fun b7 => ?_)
  refine GL.step (ot_appendR (k := 1) (news := [v8 128]) ei_27 rfl rfl rfl (fun w h => .inr ⟨b7, 0, rfl, Hd.cellsAll (k := 0) rfl w h⟩) rfl rfl (by omega) (by decide) (by decide) rfl (r := 1) (by rfl) (rfl) fun A8 c8 => ?_)
  refine GL.val (rv_assign rfl) rfl ?_
  refine GL.nil ?_
  refine GX.then ?_
  refine GC.seq ?_
  refine GC.block ?_
  refine GC.loopK (γ := Nat × Option Addr × Nat) [0] [0] (fun g Lk => (3, .slice g.2.1 (1 + g.1) g.2.2) :: Lk) (fun g Fk => .row g.2.1 g.2.2 5 1 (1 + g.1) (byts (128 :: List.replicate g.1 0)) :: Fk) (fun g => g.1 ≤ Sh.padz n) (fun g => Sh.padz n - g.1) (0, A8, c8) rfl rfl (Nat.zero_le _) (by repeat (first | exact Sub.nil | refine Sub.cons rfl ?_)) (fun w9 h => by
      have h := h.sel [0, 1] rfl rfl
      exact h) (fun ⟨z, A, c⟩ hz => ?_)
  dsimp only at hz ⊢
  refine GC.seq ?_
  refine GC.seq ?_
  refine GC.reg ?_
  refine GL.val (rv_move rfl) rfl ?_
  refine GL.val (rv_move rfl) rfl ?_
  refine GL.val (rv_lenSl Try.underlying27 rfl) rfl ?_
  refine GL.val (rv_conv64I (1 + z) Try.underlying3 Try.underlying24 rfl (by rfl)) rfl ?_
  refine GL.val (rv_add64 rfl rfl) rfl ?_
  refine GL.val (rv_rem64 (b := 64) rfl rfl (by decide)) rfl ?_
  refine GL.val (rv_ne64 (b := 56) rfl rfl) rfl ?_
  refine GL.nil ?_
  refine GX.then ?_
  refine GC.condP rfl (fun c15 => ?_) (fun c15 => ?_)
  · have hlt := (Sh.padz_go n z hz).1 c15
    refine GC.skip ?_
    refine GX.then ?_
    refine GC.block ?_
    refine GC.reg ?_
    refine GL.val (rv_move rfl) rfl ?_
    refine GL.step (ot_buildSlice ei_27 rfl rfl rfl rfl rfl rfl fun b17 => ?_)
    refine GL.step (ot_appendR (k := 1) (news := [v8 0]) ei_27 rfl rfl rfl (fun w h => .inr ⟨b17, 0, rfl, Hd.cellsAll (k := 0) rfl w h⟩) rfl rfl (by omega) (by decide) (by decide) rfl (r := 1 + (z + 1)) (by rfl) (Sh.pad_z z) fun A18 c18 => ?_)
    refine GL.val (rv_assign rfl) rfl ?_
    refine GL.nil ?_
    refine GX.blk ?_
    exact GX.round (z + 1, A18, c18) (by dsimp only; omega) (by dsimp only; omega) (by repeat (first | exact Sub.nil | refine Sub.cons rfl ?_)) (fun w9 h => by
        have h := h.sel [2, 1] rfl rfl
        exact h)
  · obtain rfl : z = Sh.padz n := by
      have hnot : ¬ z < Sh.padz n := fun h => c15 ((Sh.padz_go n z hz).2 h)
      omega
    refine GC.exit ?_
    refine GX.then_exit ?_
    refine GX.then_exit ?_
    refine GX.blk_eq ?_
    refine GX.then ?_
    refine GC.seq ?_
    refine GC.reg ?_
    refine GL.val (rv_move rfl) rfl ?_
    refine GL.val (rv_mul64 (b := 8) rfl rfl) rfl ?_
    refine GL.val (rv_assign rfl) rfl ?_
    refine GL.nil ?_
    refine GX.then ?_
    refine GC.seq ?_
    refine GC.seq ?_
    refine GC.reg ?_
    refine GL.val (rv_assign rfl) rfl ?_
    refine GL.nil ?_
    refine GX.then ?_
    refine GC.block ?_
    refine GC.loopK (γ := Nat × Option Addr × Nat) [4] [1] (fun g Lk => (3, .slice g.2.1 (1 + Sh.padz n + g.1) g.2.2) :: (5, .int .i64 (g.1 : Int)) :: Lk) (fun g Fk => .row g.2.1 g.2.2 5 1 (1 + Sh.padz n + g.1) (byts (128 :: List.replicate (Sh.padz n) 0 ++ Sh.lenb n g.1)) :: Fk) (fun g => g.1 ≤ 8) (fun g => 8 - g.1) (0, A, c) rfl rfl (Nat.zero_le _) (by repeat (first | exact Sub.nil | refine Sub.cons rfl ?_)) (fun w9 h => by
        rw [show (128 :: List.replicate (Sh.padz n) 0 ++ Sh.lenb n 0) = 128 :: List.replicate (Sh.padz n) 0 from List.append_nil _]
        exact h) (fun ⟨i, A, c⟩ hi => ?_)
    dsimp only at hi ⊢
    refine GC.seq ?_
    refine GC.seq ?_
    refine GC.reg ?_
    refine GL.val (rv_move rfl) rfl ?_
    refine GL.val (rv_lss rfl rfl) rfl ?_
    refine GL.nil ?_
    refine GX.then ?_
    refine GC.condP rfl (fun c22 => ?_) (fun c22 => ?_)
    · have hlt : i < 8 := by omega
      refine GC.skip ?_
      refine GX.then ?_
      refine GC.seq ?_
      refine GC.block ?_
      refine GC.reg ?_
      refine GL.val (rv_move rfl) rfl ?_
      refine GL.val (rv_move rfl) rfl ?_
      refine GL.val (rv_move rfl) rfl ?_
      refine GL.val (rv_mulI rfl rfl (by omega) (by omega)) rfl ?_
      refine GL.val (rv_sub rfl rfl (by omega) (by omega)) rfl ?_
      refine GL.val (rv_to (v' := .int .u64 ((56 - 8 * i : Nat) : Int)) (rv_convI Try.underlying3 Try.underlying99 rfl) (by congr 1; rw [Bz.wrap64]; omega)) rfl ?_
      refine GL.val (rv_shr64 (56 - 8 * i) rfl rfl (by rfl) (by omega)) rfl ?_
      refine GL.val (rv_c64_8 Try.underlying24 Try.underlying5 rfl) rfl ?_
      refine GL.step (ot_buildSlice ei_27 rfl rfl rfl rfl rfl rfl fun b33 => ?_)
      refine GL.step (ot_appendR (k := 1) (news := [v8 _]) ei_27 rfl rfl rfl (fun w h => .inr ⟨b33, 0, rfl, Hd.cellsAll (k := 0) rfl w h⟩) rfl rfl (by omega) (by decide) (by decide) rfl (r := 1 + Sh.padz n + (i + 1)) (by rfl) (Sh.pad_i n _ i hlt) fun A34 c34 => ?_)
      refine GL.val (rv_assign rfl) rfl ?_
      refine GL.nil ?_
      refine GX.blk ?_
      refine GX.then ?_
      refine GC.reg ?_
      refine GL.val (rv_move rfl) rfl ?_
      refine GL.val (rv_add rfl rfl (by omega) (by omega)) rfl ?_
      refine GL.val (rv_assign rfl) rfl ?_
      refine GL.nil ?_
      exact GX.round (i + 1, A34, c34) (by dsimp only; omega) (by dsimp only; omega) (by repeat (first | exact Sub.nil | refine Sub.cons rfl ?_)) (fun w9 h => by
          have h := h.sel [2, 1] rfl rfl
          exact h)
    · obtain rfl : i = 8 := by omega
      refine GC.exit ?_
      refine GX.then_exit ?_
      refine GX.then_exit ?_
      refine GX.blk_eq ?_
      refine GX.then ?_
      refine GC.seq ?_
      refine GC.reg ?_
      refine GL.val (rv_move rfl) rfl ?_
      refine GL.val (rv_assign rfl) rfl ?_
      refine GL.nil ?_
      refine GX.then ?_
      refine GC.ret ?_
      refine GX.ret1 rfl (RR.tmp rfl) ?_
      exact fun w9 h => ⟨(A, c), rfl, by
          have h := h.sel [0] rfl rfl
          exact h, trivial⟩
set_option maxRecDepth 100000 in
set_option maxHeartbeats 1000000 in
theorem pad_c (n : UInt64) (w : World) : Calls Try.prog 87 [v64 n].toArray w fun e w' => ∃ g : Option Addr × Nat, e = .returned (.slice g.1 (1 + Sh.padz n + 8) g.2) ∧ St noB w w' [.row g.1 g.2 5 1 (1 + Sh.padz n + 8) (byts (Sh.pad n))] ∧ True := by
  refine GC.calls Try.func87 rfl rfl (St.begin _) ?_
  have hz64 : Sh.padz n < 64 := Nat.mod_lt _ (by omega)
  refine GC.seq ?_
  refine GC.reg ?_
  refine GL.val (rv_assign rfl) rfl ?_
  refine GL.nil ?_
  refine GX.then ?_
  refine GC.seq ?_
  refine GC.reg ?_
  refine GL.step (ot_buildSlice ei_27 rfl rfl rfl rfl rfl rfl fun b5 => ?_)
  refine GL.st (Fs' := _) (fun w9 h => by
    have h := h.sel [0] rfl rfl
    have h := h.clRow (k := 0) (n' := 1) (sz := 1) rfl rfl (by omega)
    exact h) ?_
  refine GL.val (rv_assign rfl) rfl ?_
  refine GL.nil ?_
  refine GX.then ?_
  refine GC.seq ?_
  refine GC.block ?_
  refine GC.loopK (γ := Nat × Option Addr × Nat) [0] [] (fun g Lk => (3, .slice g.2.1 (1 + g.1) g.2.2) :: Lk) (fun g Fk => .row g.2.1 g.2.2 5 1 (1 + g.1) (byts (128 :: List.replicate g.1 0)) :: Fk) (fun g => g.1 ≤ Sh.padz n) (fun g => Sh.padz n - g.1) (0, some ⟨b5, 0, none⟩, 1) rfl rfl (Nat.zero_le _) (by repeat (first | exact Sub.nil | refine Sub.cons rfl ?_)) (fun w9 h => by
      exact h) (fun ⟨z, A, c⟩ hz => ?_)
  dsimp only at hz ⊢
  refine GC.seq ?_
  refine GC.seq ?_
  refine GC.reg ?_
  refine GL.val (rv_move rfl) rfl ?_
  refine GL.val (rv_move rfl) rfl ?_
  refine GL.val (rv_lenSl Try.underlying27 rfl) rfl ?_
  refine GL.val (rv_conv64I (1 + z) Try.underlying3 Try.underlying24 rfl (by rfl)) rfl ?_
  refine GL.val (rv_add64 rfl rfl) rfl ?_
  refine GL.val (rv_rem64 (b := 64) rfl rfl (by decide)) rfl ?_
  refine GL.val (rv_ne64 (b := 56) rfl rfl) rfl ?_
  refine GL.nil ?_
  refine GX.then ?_
  refine GC.condP rfl (fun c12 => ?_) (fun c12 => ?_)
  · have hlt := (Sh.padz_go n z hz).1 c12
    refine GC.skip ?_
    refine GX.then ?_
    refine GC.block ?_
    refine GC.reg ?_
    refine GL.val (rv_move rfl) rfl ?_
    refine GL.step (ot_buildSlice ei_27 rfl rfl rfl rfl rfl rfl fun b14 => ?_)
    refine GL.step (ot_appendR (k := 1) (news := [v8 0]) ei_27 rfl rfl rfl (fun w h => .inr ⟨b14, 0, rfl, Hd.cellsAll (k := 0) rfl w h⟩) rfl rfl (by omega) (by decide) (by decide) rfl (r := 1 + (z + 1)) (by rfl) (Sh.pad_z z) fun A15 c15 => ?_)
    refine GL.val (rv_assign rfl) rfl ?_
    refine GL.nil ?_
    refine GX.blk ?_
    exact GX.round (z + 1, A15, c15) (by dsimp only; omega) (by dsimp only; omega) (by repeat (first | exact Sub.nil | refine Sub.cons rfl ?_)) (fun w9 h => by
        have h := h.sel [1] rfl rfl
        exact h)
  · obtain rfl : z = Sh.padz n := by
      have hnot : ¬ z < Sh.padz n := fun h => c12 ((Sh.padz_go n z hz).2 h)
      omega
    refine GC.exit ?_
    refine GX.then_exit ?_
    refine GX.then_exit ?_
    refine GX.blk_eq ?_
    refine GX.then ?_
    refine GC.seq ?_
    refine GC.seq ?_
    refine GC.reg ?_
    refine GL.val (rv_move rfl) rfl ?_
    refine GL.nil ?_
    refine GX.then ?_
    refine GC.block ?_
    refine GC.loopK (γ := Nat × Option Addr × Nat) [0] [] (fun g Lk => (3, .slice g.2.1 (1 + Sh.padz n + g.1) g.2.2) :: (16, .int .i64 (g.1 : Int)) :: Lk) (fun g Fk => .row g.2.1 g.2.2 5 1 (1 + Sh.padz n + g.1) (byts (128 :: List.replicate (Sh.padz n) 0 ++ Sh.lenb n g.1)) :: Fk) (fun g => g.1 ≤ 8) (fun g => 8 - g.1) (0, A, c) rfl rfl (Nat.zero_le _) (by repeat (first | exact Sub.nil | refine Sub.cons rfl ?_)) (fun w9 h => by
        rw [show (128 :: List.replicate (Sh.padz n) 0 ++ Sh.lenb n 0) = 128 :: List.replicate (Sh.padz n) 0 from List.append_nil _]
        exact h) (fun ⟨i, A, c⟩ hi => ?_)
    dsimp only at hi ⊢
    refine GC.seq ?_
    refine GC.reg ?_
    refine GL.val (rv_lss rfl rfl) rfl ?_
    refine GL.nil ?_
    refine GX.then ?_
    refine GC.seq ?_
    refine GC.condP rfl (fun c17 => ?_) (fun c17 => ?_)
    · have hlt : i < 8 := by omega
      refine GC.skip ?_
      refine GX.then ?_
      refine GC.seq ?_
      refine GC.block ?_
      refine GC.seq ?_
      refine GC.reg ?_
      refine GL.val (rv_move rfl) rfl ?_
      refine GL.val (rv_assign rfl) rfl ?_
      refine GL.nil ?_
      refine GX.then ?_
      refine GC.reg ?_
      refine GL.val (rv_move rfl) rfl ?_
      refine GL.val (rv_move rfl) rfl ?_
      refine GL.val (rv_to (v' := v64 (n * 8)) (rv_shl64 (3) rfl rfl rfl (by decide)) (by rw [Sh.shl3])) rfl ?_
      refine GL.val (rv_move rfl) rfl ?_
      refine GL.val (rv_mulI rfl rfl (by omega) (by omega)) rfl ?_
      refine GL.val (rv_sub rfl rfl (by omega) (by omega)) rfl ?_
      refine GL.val (rv_shr64 (56 - 8 * i) rfl rfl (by omega) (by omega)) rfl ?_
      refine GL.val (rv_c64_8 Try.underlying24 Try.underlying5 rfl) rfl ?_
      refine GL.step (ot_buildSlice ei_27 rfl rfl rfl rfl rfl rfl fun b27 => ?_)
      refine GL.step (ot_appendR (k := 1) (news := [v8 _]) ei_27 rfl rfl rfl (fun w h => .inr ⟨b27, 0, rfl, Hd.cellsAll (k := 0) rfl w h⟩) rfl rfl (by omega) (by decide) (by decide) rfl (r := 1 + Sh.padz n + (i + 1)) (by rfl) (Sh.pad_i n _ i hlt) fun A28 c28 => ?_)
      refine GL.val (rv_assign rfl) rfl ?_
      refine GL.nil ?_
      refine GX.blk ?_
      refine GX.then ?_
      refine GC.reg ?_
      refine GL.val (rv_add rfl rfl (by omega) (by omega)) rfl ?_
      refine GL.val (rv_move rfl) rfl ?_
      refine GL.nil ?_
      exact GX.round (i + 1, A28, c28) (by dsimp only; omega) (by dsimp only; omega) (by repeat (first | exact Sub.nil | refine Sub.cons rfl ?_)) (fun w9 h => by
          have h := h.sel [1] rfl rfl
          exact h)
    · obtain rfl : i = 8 := by omega
      refine GC.exit ?_
      refine GX.then_exit ?_
      refine GX.then_exit ?_
      refine GX.blk_eq ?_
      refine GX.then ?_
      refine GC.seq ?_
      refine GC.reg ?_
      refine GL.val (rv_move rfl) rfl ?_
      refine GL.val (rv_assign rfl) rfl ?_
      refine GL.nil ?_
      refine GX.then ?_
      refine GC.ret ?_
      refine GX.ret1 rfl (RR.tmp rfl) ?_
      exact fun w9 h => ⟨(A, c), rfl, by
          exact h, trivial⟩
set_option maxRecDepth 100000 in
set_option maxHeartbeats 1000000 in
theorem new_c (w : World) : Calls Try.prog 84 [].toArray w fun e w' => ∃ g : Nat, e = .returned (.pointer (some ⟨g, 0, none⟩)) ∧ St noB w w' [.cl g (Sh.hc Sh.H0 (List.replicate 64 0) 0 0) 122] ∧ True := by
  refine GC.calls Try.func84 rfl rfl (St.begin _) ?_
  refine GC.seq ?_
  refine GC.reg ?_
  refine GL.val (rv_assign rfl) rfl ?_
  refine GL.nil ?_
  refine GX.then ?_
  refine GC.seq ?_
  refine GC.reg ?_
  refine GL.val (rv_buildA (cs := ws32 Sh.H0) as_120 zb_120 rfl rfl rfl rfl) rfl ?_
  refine GL.val (rv_buildS (r := Sh.hc Sh.H0 (List.replicate 64 0) 0 0) pl_122 zb_122 rfl rfl rfl) rfl ?_
  refine GL.step (ot_box rfl rfl rfl fun b3 => ?_)
  refine GL.val (rv_assign rfl) rfl ?_
  refine GL.nil ?_
  refine GX.then ?_
  refine GC.ret ?_
  refine GX.ret1 rfl (RR.tmp rfl) ?_
  exact fun w9 h => ⟨b3, rfl, by
      exact h, trivial⟩
set_option maxRecDepth 100000 in
set_option maxHeartbeats 1000000 in
theorem clone_c (b : Nat) (hw : Sh.W) (blk : Sh.B) (hv : Nat) (n : UInt64) (w : World) (hC : Cells w b 0 (Sh.hc hw blk hv n)) (h8 : hw.length = 8) (hl : blk.length = 64) : Calls Try.prog 86 [.pointer (some ⟨b, 0, none⟩)].toArray w fun e w' => ∃ g : Nat, e = .returned (.pointer (some ⟨g, 0, none⟩)) ∧ St noB w w' [.cl g (Sh.hc hw blk hv n) 122] ∧ True := by
  refine GC.calls Try.func86 rfl rfl (St.begin _) ?_
  refine GC.seq ?_
  refine GC.reg ?_
  refine GL.val (rv_assign rfl) rfl ?_
  refine GL.nil ?_
  refine GX.then ?_
  refine GC.seq ?_
  refine GC.reg ?_
  refine GL.val (rv_move rfl) rfl ?_
  refine GL.val (rv_nil rfl) rfl ?_
  refine GL.val (rv_loadAL ag_122 rfl (Hd.cells0 hC (fun h => h)) (by exact sz_122) (by (exact Sh.hc_len h8 hl))) rfl ?_
  refine GL.step (ot_alloc (zs := [.int .u32 0, .int .u32 0, .int .u32 0, .int .u32 0, .int .u32 0, .int .u32 0, .int .u32 0, .int .u32 0, .int .u8 0, .int .u8 0, .int .u8 0, .int .u8 0, .int .u8 0, .int .u8 0, .int .u8 0, .int .u8 0, .int .u8 0, .int .u8 0, .int .u8 0, .int .u8 0, .int .u8 0, .int .u8 0, .int .u8 0, .int .u8 0, .int .u8 0, .int .u8 0, .int .u8 0, .int .u8 0, .int .u8 0, .int .u8 0, .int .u8 0, .int .u8 0, .int .u8 0, .int .u8 0, .int .u8 0, .int .u8 0, .int .u8 0, .int .u8 0, .int .u8 0, .int .u8 0, .int .u8 0, .int .u8 0, .int .u8 0, .int .u8 0, .int .u8 0, .int .u8 0, .int .u8 0, .int .u8 0, .int .u8 0, .int .u8 0, .int .u8 0, .int .u8 0, .int .u8 0, .int .u8 0, .int .u8 0, .int .u8 0, .int .u8 0, .int .u8 0, .int .u8 0, .int .u8 0, .int .u8 0, .int .u8 0, .int .u8 0, .int .u8 0, .int .u8 0, .int .u8 0, .int .u8 0, .int .u8 0, .int .u8 0, .int .u8 0, .int .u8 0, .int .u8 0, .int .i64 0, .int .u64 0]) zb_122 rfl rfl fun b3 => ?_)
  refine GL.step (ot_storeA (k := 0) rfl rfl rfl rfl (by exact sz_122) (Sh.hc_len h8 hl) rfl (Sh.hc_one _ _ _ _) ?_)
  refine GL.nil ?_
  refine GX.then ?_
  refine GC.seq ?_
  refine GC.reg ?_
  refine GL.val (rv_assign rfl) rfl ?_
  refine GL.nil ?_
  refine GX.then ?_
  refine GC.ret ?_
  refine GX.ret1 rfl (RR.tmp rfl) ?_
  exact fun w9 h => ⟨b3, rfl, by
      exact h, trivial⟩
end Go.Proofs.Ytkifeeiafachpaa
