import Derived.Test.YtkifeeiafachpaaE
set_option linter.unusedVariables false
set_option linter.unusedSimpArgs false
namespace Go.Proofs.Ytkifeeiafachpaa
open Go Go.RowKit Go.Bz
theorem ag_29 : aggB Try.prog 29 = some true := by kernel_rfl
theorem as_29 : arrSz Try.prog 29 = some (32, 1) := by kernel_rfl
theorem hb_76 : hasBody Try.prog 76 = true := by kernel_rfl
theorem hb_77 : hasBody Try.prog 77 = true := by kernel_rfl
theorem hb_84 : hasBody Try.prog 84 = true := by kernel_rfl
theorem hb_86 : hasBody Try.prog 86 = true := by kernel_rfl
theorem hb_87 : hasBody Try.prog 87 = true := by kernel_rfl
theorem hb_88 : hasBody Try.prog 88 = true := by kernel_rfl
theorem hb_89 : hasBody Try.prog 89 = true := by kernel_rfl
theorem hb_90 : hasBody Try.prog 90 = true := by kernel_rfl
theorem sz_29 : (Try.prog.info? 29).map (·.size) = some 32 := by kernel_rfl
theorem sz_5 : (Try.prog.info? 5).map (·.size) = some 1 := by kernel_rfl
theorem zb_29 : zeroB Try.prog 29 = some (.agg #[.int .u8 0, .int .u8 0, .int .u8 0, .int .u8 0, .int .u8 0, .int .u8 0, .int .u8 0, .int .u8 0, .int .u8 0, .int .u8 0, .int .u8 0, .int .u8 0, .int .u8 0, .int .u8 0, .int .u8 0, .int .u8 0, .int .u8 0, .int .u8 0, .int .u8 0, .int .u8 0, .int .u8 0, .int .u8 0, .int .u8 0, .int .u8 0, .int .u8 0, .int .u8 0, .int .u8 0, .int .u8 0, .int .u8 0, .int .u8 0, .int .u8 0, .int .u8 0]) := by kernel_rfl
theorem rep_len (m : Sh.B) (h : m.length < 2305843009213693952) : (m ++ Sh.pad (UInt64.ofNat m.length)).length = m.length + (1 + Sh.padz (UInt64.ofNat m.length) + 8) := by
  rw [List.length_append, Sh.pad_len]; omega
set_option maxRecDepth 100000 in
set_option maxHeartbeats 1000000 in
theorem digest_c (b : Nat) (m : Sh.B) (hw : Sh.W) (blk : Sh.B) (hv : Nat) (w : World) (hr : Sh.Rep m hw blk hv) (hC : Cells w b 0 (Sh.hc hw blk hv (UInt64.ofNat m.length))) :
    Calls Try.prog 77 [.pointer (some ⟨b, 0, none⟩)].toArray w fun e w' => ∃ _g : Unit, e = .returned (.agg (ws8 (Sh.sum m)).toArray) ∧ St noB w w' [] ∧ True := by
  refine GC.calls Try.func77 rfl rfl (St.begin _) ?_
  have hz64 : Sh.padz (UInt64.ofNat m.length) < 64 := Nat.mod_lt _ (by omega)
  refine GC.seq ?_
  refine GC.reg ?_
  refine GL.step (ot_alloc (zs := ws8 (List.replicate 32 0)) zb_29 (rfl) rfl fun b2 => ?_)
  refine GL.nil ?_
  refine GX.then ?_
  refine GC.seq ?_
  refine GC.reg ?_
  refine GL.val (rv_move rfl) rfl ?_
  refine GL.step (ot_call hb_86 rfl (callOk fun w hh => clone_c b hw blk hv _ w (Hd.cells0 hC (fun h => h) w hh) hr.h8 hr.bl) rfl fun b3 _ => ?_)
  refine GL.val (rv_assign rfl) rfl ?_
  refine GL.nil ?_
  refine GX.then ?_
  refine GC.seq ?_
  refine GC.reg ?_
  refine GL.val (rv_move rfl) rfl ?_
  refine GL.val (rv_move rfl) rfl ?_
  refine GL.val (rv_nil rfl) rfl ?_
  refine GL.val (rv_field fo_122_3 rfl rfl) rfl ?_
  refine GL.val (rv_load ag_24 rfl (Hd.cell0 (by have := hC 73 _ (Sh.hc_n hr.h8 hr.bl); simpa using this) (fun h => h))) rfl ?_
  refine GL.step (ot_call hb_87 rfl (callOk fun w hh => pad_c _ w) rfl fun gp _ => ?_)
  obtain ⟨Ap, cp⟩ := gp
  refine GL.rowForm (k := 0) rfl fun _ hcp _ => ?_
  refine GL.step (ot_call hb_76 rfl (callOkS (k := 1) rfl fun w S hh hA hb hs => write_c b3 _ cp Ap m (Sh.pad (UInt64.ofNat m.length)) hw blk hv w S hr hA (fun b h => (hb b h).1) (hs.row (j := 0) rfl (by decide)) (by rw [Sh.pad_len]; omega) hcp (by omega)) rfl fun gw hr2 => ?_)
  obtain ⟨hw2, blk2, hv2⟩ := gw
  dsimp only at hr2 ⊢
  have hfin : hw2 = Sh.fin (m ++ Sh.pad (UInt64.ofNat m.length)) := hr2.fin
  refine GL.nil ?_
  refine GX.then ?_
  refine GC.seq ?_
  refine GC.reg ?_
  refine GL.step (ot_alloc (zs := ws8 (List.replicate 32 0)) zb_29 (rfl) rfl fun b4 => ?_)
  refine GL.nil ?_
  refine GX.then ?_
  refine GC.seq ?_
  refine GC.seq ?_
  refine GC.reg ?_
  refine GL.val (rv_move rfl) rfl ?_
  refine GL.val (rv_nil rfl) rfl ?_
  refine GL.val (rv_field fo_122_0 rfl rfl) rfl ?_
  refine GL.val (rv_loadAL ag_120 rfl (Hd.cells (k := 1) (us := ws32 hw2) rfl (Sh.hc_hs hr2.h8 hr2.bl)) (by exact sz_120) (by ((simp only [ws32_len]; exact hr2.h8)))) rfl ?_
  refine GL.val (rv_move rfl) rfl ?_
  refine GL.nil ?_
  refine GX.then ?_
  refine GC.block ?_
  refine GC.loopK (γ := Nat) [20, 4, 2] [3, 2, 1] (fun g Lk => (21, .int .i64 (g : Int)) :: Lk) (fun g Fk => .cl b4 (ws8 (Sh.outTo hw2 (4 * g))) 29 :: Fk) (fun g => g ≤ 8) (fun g => 8 - g) (0) rfl rfl (Nat.zero_le _) (by repeat (first | exact Sub.nil | refine Sub.cons rfl ?_)) (fun w9 h => by
      exact h) (fun i hi => ?_)
  skip
  refine GC.seq ?_
  refine GC.reg ?_
  refine GL.val (rv_lss rfl rfl) rfl ?_
  refine GL.nil ?_
  refine GX.then ?_
  refine GC.seq ?_
  refine GC.condP rfl (fun c22 => ?_) (fun c22 => ?_)
  · have hlt : i < 8 := by omega
    refine GC.skip ?_
    refine GX.then ?_
    refine GC.seq ?_
    refine GC.block ?_
    refine GC.seq ?_
    refine GC.reg ?_
    refine GL.val (rv_move rfl) rfl ?_
    refine GL.val (rv_index (i) Try.underlying120 (by exact sz_119) ag_119 rfl rfl (by rfl) (by omega) (ws32_get (by rw [hr2.h8]; omega))) rfl ?_
    refine GL.val (rv_assign rfl) rfl ?_
    refine GL.val (rv_assign rfl) rfl ?_
    refine GL.nil ?_
    refine GX.then ?_
    refine GC.seq ?_
    refine GC.reg ?_
    refine GL.val (rv_move rfl) rfl ?_
    refine GL.nil ?_
    refine GX.then ?_
    refine GC.block ?_
    refine GC.loopK (γ := Nat) [21, 20, 6, 5, 4, 2] [3, 2, 1] (fun g Lk => (25, .int .i64 (g : Int)) :: Lk) (fun g Fk => .cl b4 (ws8 (Sh.outTo hw2 (4 * i + g))) 29 :: Fk) (fun g => g ≤ 4) (fun g => 4 - g) (0) rfl rfl (Nat.zero_le _) (by repeat (first | exact Sub.nil | refine Sub.cons rfl ?_)) (fun w9 h => by
        exact h) (fun k hk => ?_)
    skip
    refine GC.seq ?_
    refine GC.reg ?_
    refine GL.val (rv_lss rfl rfl) rfl ?_
    refine GL.nil ?_
    refine GX.then ?_
    refine GC.seq ?_
    refine GC.condP rfl (fun c26 => ?_) (fun c26 => ?_)
    · have hlk : k < 4 := by omega
      refine GC.skip ?_
      refine GX.then ?_
      refine GC.seq ?_
      refine GC.block ?_
      refine GC.seq ?_
      refine GC.reg ?_
      refine GL.val (rv_move rfl) rfl ?_
      refine GL.val (rv_assign rfl) rfl ?_
      refine GL.nil ?_
      refine GX.then ?_
      refine GC.reg ?_
      refine GL.val (rv_move rfl) rfl ?_
      refine GL.val (rv_mulI rfl rfl (by omega) (by omega)) rfl ?_
      refine GL.val (rv_move rfl) rfl ?_
      refine GL.val (rv_add rfl rfl (by omega) (by omega)) rfl ?_
      refine GL.val (rv_move rfl) rfl ?_
      refine GL.val (rv_move rfl) rfl ?_
      refine GL.val (rv_mulI rfl rfl (by omega) (by omega)) rfl ?_
      refine GL.val (rv_sub rfl rfl (by omega) (by omega)) rfl ?_
      refine GL.val (rv_shr32 (24 - 8 * k) rfl rfl (by omega) (by omega)) rfl ?_
      refine GL.val (rv_c32_8 Try.underlying119 Try.underlying5 rfl) rfl ?_
      refine GL.val (rv_elemAJ (q := 4 * i + k) (4 * i + k) as_29 rfl rfl (by rfl) (by omega) (by omega)) rfl ?_
      refine GL.step (ot_store1 (k := 0) rfl rfl rfl rfl (by exact sz_5) rfl (by rw [ws8_len, Sh.outTo_len]; omega) (by rw [ws8_set, ← Sh.out_step _ _ _ hlk]) ?_)
      refine GL.nil ?_
      refine GX.blk ?_
      refine GX.then ?_
      refine GC.reg ?_
      refine GL.val (rv_add rfl rfl (by omega) (by omega)) rfl ?_
      refine GL.val (rv_move rfl) rfl ?_
      refine GL.nil ?_
      exact GX.round (k + 1) (by omega) (by omega) (by repeat (first | exact Sub.nil | refine Sub.cons rfl ?_)) (fun w9 h => by
          exact h)
    · obtain rfl : k = 4 := by omega
      refine GC.exit ?_
      refine GX.then_exit ?_
      refine GX.then_exit ?_
      refine GX.blk_eq ?_
      refine GX.blk ?_
      refine GX.then ?_
      refine GC.reg ?_
      refine GL.val (rv_add rfl rfl (by omega) (by omega)) rfl ?_
      refine GL.val (rv_move rfl) rfl ?_
      refine GL.nil ?_
      exact GX.round (i + 1) (by omega) (by omega) (by repeat (first | exact Sub.nil | refine Sub.cons rfl ?_)) (fun w9 h => by
          rw [show 4 * (i + 1) = 4 * i + 4 by omega]
          exact h)
  · obtain rfl : i = 8 := by omega
    rw [show Sh.outTo hw2 (4 * 8) = Sh.sum m from by rw [hfin]; rfl]
    refine GC.exit ?_
    refine GX.then_exit ?_
    refine GX.then_exit ?_
    refine GX.blk_eq ?_
    refine GX.then ?_
    refine GC.seq ?_
    refine GC.reg ?_
    refine GL.val (rv_loadAL ag_29 rfl (by exact Hd.cellsAll (k := 0) rfl) (by exact sz_29) (by ((simp only [ws32_len, ws8_len, Sh.outTo_len, Sh.sum_len, List.length_replicate]; done)))) rfl ?_
    refine GL.step (ot_storeA (k := 3) rfl rfl rfl rfl (by exact sz_29) (by ((simp only [ws32_len, ws8_len, Sh.outTo_len, Sh.sum_len, List.length_replicate]; done))) (by ((simp only [ws32_len, ws8_len, Sh.outTo_len, Sh.sum_len, List.length_replicate]; done))) (by exact ws8_one _) ?_)
    refine GL.nil ?_
    refine GX.then ?_
    refine GC.ret ?_
    refine GX.ret1 rfl (RR.cellL ag_29 rfl (by exact Hd.cellsAll (k := 3) rfl) (by exact sz_29) (by ((simp only [ws32_len, ws8_len, Sh.outTo_len, Sh.sum_len, List.length_replicate]; done)))) ?_
    exact fun w9 h => ⟨(), rfl, by
        have h := h.sel [] rfl rfl
        exact h, trivial⟩
set_option maxRecDepth 100000 in
set_option maxHeartbeats 1000000 in
theorem sum_c (l c : Nat) (A : Option Addr) (bs : Sh.B) (w : World) (hR : SlR w A (byts bs)) (hl : bs.length = l) (hc : l ≤ c) (hbig : l < 2305843009213693952) :
    Calls Try.prog 91 [.slice A l c].toArray w fun e w' => ∃ _g : Unit, e = .returned (.agg (ws8 (Sh.sum bs)).toArray) ∧ St noB w w' [] ∧ True := by
  refine GC.calls Try.func91 rfl rfl (St.begin _) ?_
  refine GC.seq ?_
  refine GC.reg ?_
  refine GL.step (ot_alloc (zs := ws8 (List.replicate 32 0)) zb_29 (rfl) rfl fun b2 => ?_)
  refine GL.nil ?_
  refine GX.then ?_
  refine GC.seq ?_
  refine GC.reg ?_
  refine GL.step (ot_call hb_84 rfl (callOk fun w hh => new_c w) rfl fun b4 _ => ?_)
  refine GL.val (rv_assign rfl) rfl ?_
  refine GL.nil ?_
  refine GX.then ?_
  refine GC.seq ?_
  refine GC.reg ?_
  refine GL.val (rv_move rfl) rfl ?_
  refine GL.val (rv_move rfl) rfl ?_
  refine GL.step (ot_call hb_76 rfl (callOkS (k := 0) rfl fun w S hh hA hb hs => write_c b4 l c A [] bs Sh.H0 (List.replicate 64 0) 0 w S Sh.Rep.begin hA (fun b h => (hb b h).1) (SlA.old (SlR.a0 hR) hh hb) hl hc (by omega)) rfl fun gw hr2 => ?_)
  obtain ⟨hw2, blk2, hv2⟩ := gw
  simp only [List.nil_append] at hr2 ⊢
  refine GL.nil ?_
  refine GX.then ?_
  refine GC.seq ?_
  refine GC.reg ?_
  refine GL.val (rv_move rfl) rfl ?_
  refine GL.step (ot_call hb_77 rfl (callOk fun w hh => digest_c b4 bs hw2 blk2 hv2 w hr2 (Hd.cellsAll (k := 0) rfl w hh)) rfl fun _ _ => ?_)
  refine GL.step (ot_storeA (k := 1) rfl rfl rfl rfl (by exact sz_29) (by (simp only [ws8_len, Sh.sum_len, List.length_replicate])) (by (simp only [ws8_len, Sh.sum_len, List.length_replicate])) (by exact ws8_one _) ?_)
  refine GL.nil ?_
  refine GX.then ?_
  refine GC.ret ?_
  refine GX.ret1 rfl (RR.cellL ag_29 rfl (by exact Hd.cellsAll (k := 1) rfl) (by exact sz_29) (by (simp only [ws8_len, Sh.sum_len, List.length_replicate]))) ?_
  exact fun w9 h => ⟨(), rfl, by
      have h := h.sel [] rfl rfl
      exact h, trivial⟩
set_option maxRecDepth 100000 in
set_option maxHeartbeats 1000000 in
theorem rsum_c (l c : Nat) (A : Option Addr) (bs : Sh.B) (w : World) (hR : SlR w A (byts bs)) (hl : bs.length = l) (hbig : l < 70368744177664) :
    Calls Try.prog 79 [.slice A l c].toArray w fun e w' => ∃ _g : Unit, e = .returned (.agg (ws8 (Sh.sum bs)).toArray) ∧ St noB w w' [] ∧ True := by
  refine GC.calls Try.func79 rfl rfl (St.begin _) ?_
  subst hl
  have hz64 : Sh.padz (UInt64.ofNat bs.length) < 64 := Nat.mod_lt _ (by omega)
  obtain ⟨all, hall⟩ : ∃ all, bs ++ Sh.pad (UInt64.ofNat bs.length) = all := ⟨_, rfl⟩
  have hpl := rep_len bs (by omega)
  have hpm := Sh.pad_mod bs (by omega)
  rw [hall] at hpl hpm
  refine GC.seq ?_
  refine GC.reg ?_
  refine GL.step (ot_alloc (zs := ws8 (List.replicate 32 0)) zb_29 (rfl) rfl fun b2 => ?_)
  refine GL.nil ?_
  refine GX.then ?_
  refine GC.seq ?_
  refine GC.reg ?_
  refine GL.val (rv_assign rfl) rfl ?_
  refine GL.nil ?_
  refine GX.then ?_
  refine GC.seq ?_
  refine GC.st (Fs' := _) (fun w9 h => by
    have h := h.sel [0] rfl rfl
    have h := h.nilRow 5 1
    exact h) ?_
  refine GC.reg ?_
  refine GL.val (rv_move rfl) rfl ?_
  refine GL.val (rv_move rfl) rfl ?_
  refine GL.step (ot_appendR (k := 0) (news := byts bs) (ys := byts bs) ei_27 rfl rfl rfl (fun w h => h.rd0n hR) (by rw [byts_len, Nat.mul_one]) (byts_one _) (by omega) (by decide) (by decide) rfl (Nat.zero_add _) (List.nil_append _) fun A10 c10 => ?_)
  refine GL.val (rv_assign rfl) rfl ?_
  refine GL.nil ?_
  refine GX.then ?_
  refine GC.seq ?_
  refine GC.reg ?_
  refine GL.val (rv_move rfl) rfl ?_
  refine GL.val (rv_move rfl) rfl ?_
  refine GL.val (rv_lenSl Try.underlying27 rfl) rfl ?_
  refine GL.val (rv_conv64I (bs.length) Try.underlying3 Try.underlying24 rfl (by rfl)) rfl ?_
  refine GL.step (ot_call hb_88 rfl (callOk fun w hh => rpad_c _ w) rfl fun gp _ => ?_)
  obtain ⟨Ap, cp⟩ := gp
  refine GL.step (ot_appendR (k := 1) (r := all.length) (news := byts (Sh.pad (UInt64.ofNat bs.length))) (ys := byts all) ei_27 rfl rfl rfl (fun w h => h.rowR (k := 0) rfl) (by rw [byts_len, Sh.pad_len]; omega) (byts_one _) (by omega) (by decide) (by decide) rfl (by omega) (by rw [← hall, Sh.byts_app]) fun A16 c16 => ?_)
  refine GL.val (rv_assign rfl) rfl ?_
  refine GL.nil ?_
  refine GX.then ?_
  refine GC.seq ?_
  refine GC.rowForm (k := 1) rfl fun hxs hc16 hf16 => ?_
  obtain ⟨b16, rfl⟩ := hf16.resolve_left (by omega)
  refine GC.reg ?_
  refine GL.step (ot_call hb_89 rfl (callOk fun w hh => first_c w) rfl fun _ _ => ?_)
  refine GL.step (ot_alloc (zs := ws32 (List.replicate 8 0)) zb_120 (rfl) rfl fun b4 => ?_)
  refine GL.step (ot_storeA (k := 0) rfl rfl rfl rfl (by exact sz_120) (by rfl) (by ((simp only [ws32_len, ws8_len, Sh.outTo_len, Sh.sum_len, Sh.hb_len, Sh.compress_len, List.length_replicate]; done))) (by exact ws32_one _) ?_)
  refine GL.nil ?_
  refine GX.then ?_
  refine GC.seq ?_
  refine GC.seq ?_
  refine GC.reg ?_
  refine GL.val (rv_assign rfl) rfl ?_
  refine GL.nil ?_
  refine GX.then ?_
  refine GC.block ?_
  refine GC.loopK (γ := Nat) [4, 3, 2] [3, 2, 1] (fun g Lk => (5, .int .i64 ((64 * g : Nat) : Int)) :: Lk) (fun g Fk => .cl b4 (ws32 (Sh.hb all g)) 120 :: Fk) (fun g => 64 * g ≤ all.length) (fun g => all.length - 64 * g) (0) rfl rfl (Nat.zero_le _) (by repeat (first | exact Sub.nil | refine Sub.cons rfl ?_)) (fun w9 h => by
      exact h) (fun k hk => ?_)
  skip
  refine GC.seq ?_
  refine GC.seq ?_
  refine GC.reg ?_
  refine GL.val (rv_move rfl) rfl ?_
  refine GL.val (rv_add rfl rfl (by omega) (by omega)) rfl ?_
  refine GL.val (rv_move rfl) rfl ?_
  refine GL.val (rv_lenSl Try.underlying27 rfl) rfl ?_
  refine GL.val (rv_leq rfl rfl) rfl ?_
  refine GL.nil ?_
  refine GX.then ?_
  refine GC.condP rfl (fun c22 => ?_) (fun c22 => ?_)
  · have hlt : 64 * k + 64 ≤ all.length := by omega
    refine GC.skip ?_
    refine GX.then ?_
    refine GC.seq ?_
    refine GC.block ?_
    refine GC.draw 7 [0, 1, 2, 3] mo_ ?_
    refine GD.pure1 (i := 1) rfl (fun _ _ => rv_move rfl) ?_
    refine GD.pure1 (i := 2) rfl (fun _ _ => rv_move rfl) ?_
    refine GD.pure1 (i := 3) rfl (fun _ _ => rv_move rfl) ?_
    refine GD.pure1 (i := 4) rfl (fun _ _ => rv_add rfl rfl (by omega) (by omega)) ?_
    refine GD.pure1 (i := 5) rfl (fun _ _ => rv_to (v' := .slice (some ⟨b16, 64 * k, none⟩) 64 (c16 - 64 * k)) (rv_sl es_27 rfl rfl rfl rfl rfl (64 * k) (64 * k + 64) c16 rfl rfl rfl (by omega) (by omega) (by omega)) (by rw [sAddr_lt (by omega), Nat.zero_add, Nat.mul_one, Nat.add_sub_cancel_left])) ?_
    refine GD.step (i := 0) (by kernel_rfl) rfl (ot_val (rv_loadAL ag_120 rfl (by exact Hd.cellsAll (k := 0) rfl) (by exact sz_120) (by ((simp only [ws32_len, ws8_len, Sh.outTo_len, Sh.sum_len, Sh.hb_len, Sh.compress_len, List.length_replicate]; done)))) rfl ⟨.inr fun _ h => h.pk [0, 1, 2, 3], ?_⟩)
    refine GD.step (i := 6) (by kernel_rfl) rfl (ot_call hb_90 rfl (callOk fun w hh => block_c b16 (64 * k) 64 _ (Sh.hb all k) ((all.drop (64 * k)).take 64) w (by rw [Sh.byts_take, Sh.byts_drop]; exact Hd.rowCells (k := 2) rfl (by simp [byts]) w hh) (by simp; omega) rfl (Sh.hb_len _ _)) rfl fun _ _ => ⟨.inr fun _ h => h.pk [0, 1, 2, 3], ?_⟩)
    refine GD.step (i := 7) (by kernel_rfl) rfl (ot_storeA (k := 0) rfl rfl rfl rfl (by exact sz_120) (by ((simp only [ws32_len, ws8_len, Sh.outTo_len, Sh.sum_len, Sh.hb_len, Sh.compress_len, List.length_replicate]; done))) (by ((simp only [ws32_len, ws8_len, Sh.outTo_len, Sh.sum_len, Sh.hb_len, Sh.compress_len, List.length_replicate]; done))) (by exact ws32_one _) ⟨.inl rfl, ?_⟩)
    refine GD.done (by kernel_rfl) ?_
    refine GX.blk ?_
    refine GX.then ?_
    refine GC.reg ?_
    refine GL.val (rv_move rfl) rfl ?_
    refine GL.val (rv_add rfl rfl (by omega) (by omega)) rfl ?_
    refine GL.val (rv_assign rfl) rfl ?_
    refine GL.nil ?_
    exact GX.round (k + 1) (by omega) (by omega) (by repeat (first | exact Sub.nil | refine Sub.cons rfl ?_)) (fun w9 h => by
        exact h)
  · have hke : k = all.length / 64 := by omega
    refine GC.exit ?_
    refine GX.then_exit ?_
    refine GX.then_exit ?_
    refine GX.blk_eq ?_
    refine GX.then ?_
    refine GC.seq ?_
    refine GC.reg ?_
    refine GL.step (ot_alloc (zs := ws8 (List.replicate 32 0)) zb_29 (rfl) rfl fun b6 => ?_)
    refine GL.nil ?_
    refine GX.then ?_
    refine GC.seq ?_
    refine GC.seq ?_
    refine GC.reg ?_
    refine GL.val (rv_assign rfl) rfl ?_
    refine GL.nil ?_
    refine GX.then ?_
    refine GC.block ?_
    refine GC.loopK (γ := Nat) [6, 4, 2] [4, 3, 2, 1] (fun g Lk => (7, .int .i64 (g : Int)) :: Lk) (fun g Fk => .cl b6 (ws8 (Sh.outTo (Sh.hb all k) g)) 29 :: Fk) (fun g => g ≤ 32) (fun g => 32 - g) (0) rfl rfl (Nat.zero_le _) (by repeat (first | exact Sub.nil | refine Sub.cons rfl ?_)) (fun w9 h => by
        exact h) (fun i hi => ?_)
    skip
    refine GC.seq ?_
    refine GC.seq ?_
    refine GC.reg ?_
    refine GL.val (rv_move rfl) rfl ?_
    refine GL.val (rv_lss rfl rfl) rfl ?_
    refine GL.nil ?_
    refine GX.then ?_
    refine GC.condP rfl (fun c33 => ?_) (fun c33 => ?_)
    · have hlt : i < 32 := by omega
      refine GC.skip ?_
      refine GX.then ?_
      refine GC.seq ?_
      refine GC.block ?_
      refine GC.reg ?_
      refine GL.val (rv_move rfl) rfl ?_
      refine GL.val (rv_move rfl) rfl ?_
      refine GL.val (rv_quoN (m' := 4) rfl rfl (by omega) (by decide)) rfl ?_
      refine GL.val (rv_elemAJ (q := i / 4) (i / 4) as_120 rfl rfl (by rfl) (by omega) (by omega)) rfl ?_
      refine GL.val (rv_load ag_119 rfl (Hd.cell (k := 1) rfl (ws32_get (by rw [Sh.hb_len]; omega)))) rfl ?_
      refine GL.val (rv_move rfl) rfl ?_
      refine GL.val (rv_remN (m' := 4) rfl rfl (by decide)) rfl ?_
      refine GL.val (rv_mulI rfl rfl (by omega) (by omega)) rfl ?_
      refine GL.val (rv_sub rfl rfl (by omega) (by omega)) rfl ?_
      refine GL.val (rv_to (v' := .int .u64 ((24 - 8 * (i % 4) : Nat) : Int)) (rv_convI Try.underlying3 Try.underlying99 rfl) (by congr 1; rw [Bz.wrap64]; omega)) rfl ?_
      refine GL.val (rv_shr32 (24 - 8 * (i % 4)) rfl rfl (by rfl) (by omega)) rfl ?_
      refine GL.val (rv_c32_8 Try.underlying119 Try.underlying5 rfl) rfl ?_
      refine GL.val (rv_elemAJ (q := i) (i) as_29 rfl rfl (by rfl) (by omega) (by omega)) rfl ?_
      refine GL.step (ot_store1 (k := 0) rfl rfl rfl rfl (by exact sz_5) rfl (by rw [ws8_len, Sh.outTo_len]; omega) (ws8_set _ _ _) ?_)
      refine GL.nil ?_
      refine GX.blk ?_
      refine GX.then ?_
      refine GC.reg ?_
      refine GL.val (rv_move rfl) rfl ?_
      refine GL.val (rv_add rfl rfl (by omega) (by omega)) rfl ?_
      refine GL.val (rv_assign rfl) rfl ?_
      refine GL.nil ?_
      exact GX.round (i + 1) (by omega) (by omega) (by repeat (first | exact Sub.nil | refine Sub.cons rfl ?_)) (fun w9 h => by
          exact h)
    · obtain rfl : i = 32 := by omega
      rw [show Sh.outTo (Sh.hb all k) 32 = Sh.sum bs from by rw [hke]; unfold Sh.sum Sh.fin; rw [hall]]
      refine GC.exit ?_
      refine GX.then_exit ?_
      refine GX.then_exit ?_
      refine GX.blk_eq ?_
      refine GX.then ?_
      refine GC.seq ?_
      refine GC.reg ?_
      refine GL.val (rv_loadAL ag_29 rfl (by exact Hd.cellsAll (k := 0) rfl) (by exact sz_29) (by ((simp only [ws32_len, ws8_len, Sh.outTo_len, Sh.sum_len, Sh.hb_len, Sh.compress_len, List.length_replicate]; done)))) rfl ?_
      refine GL.step (ot_storeA (k := 4) rfl rfl rfl rfl (by exact sz_29) (by ((simp only [ws32_len, ws8_len, Sh.outTo_len, Sh.sum_len, Sh.hb_len, Sh.compress_len, List.length_replicate]; done))) (by ((simp only [ws32_len, ws8_len, Sh.outTo_len, Sh.sum_len, Sh.hb_len, Sh.compress_len, List.length_replicate]; done))) (by exact ws8_one _) ?_)
      refine GL.nil ?_
      refine GX.then ?_
      refine GC.ret ?_
      refine GX.ret1 rfl (RR.cellL ag_29 rfl (by exact Hd.cellsAll (k := 4) rfl) (by exact sz_29) (by ((simp only [ws32_len, ws8_len, Sh.outTo_len, Sh.sum_len, Sh.hb_len, Sh.compress_len, List.length_replicate]; done)))) ?_
      exact fun w9 h => ⟨(), rfl, by
          have h := h.sel [] rfl rfl
          exact h, trivial⟩
end Go.Proofs.Ytkifeeiafachpaa
