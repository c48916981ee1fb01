import Derived.Test.YtkifeeiafachpaaB
set_option linter.unusedVariables false
set_option linter.unusedSimpArgs false
namespace Go.Proofs.Ytkifeeiafachpaa
open Go Go.RowKit Go.Bz
theorem ei_130 : elemInfo Try.prog 130 = some (119, 1, 4) := by kernel_rfl
theorem fo_122_0 : fieldOff Try.prog 122 0 = some 0 := by kernel_rfl
theorem fo_122_1 : fieldOff Try.prog 122 1 = some 8 := by kernel_rfl
theorem fo_122_2 : fieldOff Try.prog 122 2 = some 72 := by kernel_rfl
theorem hb_92 : hasBody Try.prog 92 = true := by kernel_rfl
theorem hb_93 : hasBody Try.prog 93 = true := by kernel_rfl
theorem sz_3 : (Try.prog.info? 3).map (·.size) = some 1 := by kernel_rfl
set_option maxRecDepth 100000 in
set_option maxHeartbeats 4000000 in
theorem mix_c (b : Nat) (hw : Sh.W) (blk : Sh.B) (hv : Nat) (n : UInt64) (w : World) (S : Nat → Prop) (hA : (Pc.cl b (Sh.hc hw blk hv n) 122).A S w) (hb : ∀ x, S x → x < w.heap.size) (h8 : hw.length = 8) (hl : blk.length = 64) :
    Calls Try.prog 85 [.pointer (some ⟨b, 0, none⟩)].toArray w fun e w' => ∃ _g : Unit, e = .returned (.tuple #[]) ∧ St S w w' [.cl b (Sh.hc (Sh.compress hw blk) blk 0 n) 122] ∧ True := by
  refine GC.calls Try.func85 rfl rfl (St.begin1 hA hb) ?_
  refine GC.seq ?_
  refine GC.cutq (γ := Nat × Nat × Nat) [0] [0] (fun g Lk => (2, .pointer (some ⟨g.1, 0, none⟩)) :: (3, .pointer (some ⟨g.2.1, 0, none⟩)) :: (4, .pointer (some ⟨g.2.2, 0, none⟩)) :: Lk) (fun g Fk => .cl g.1 (ws32 (Sh.sched blk)) 125 :: .cl g.2.1 (ws32 Sh.K64) 125 :: .cl g.2.2 (ws32 hw) 120 :: Fk) (fun g => True) rfl rfl ?_ (fun ⟨b2, b3, b4⟩ _ => ?_)
  · refine GC.draw 15 [0] mo_ ?_
    refine GD.pure1 (i := 0) rfl (fun _ _ => rv_move rfl) ?_
    refine GD.pure1 (i := 1) rfl (fun _ _ => rv_nil rfl) ?_
    refine GD.pure1 (i := 2) rfl (fun _ _ => rv_field fo_122_1 rfl rfl) ?_
    refine GD.pure1 (i := 5) rfl (fun _ _ => rv_move rfl) ?_
    refine GD.pure1 (i := 6) rfl (fun _ _ => rv_nil rfl) ?_
    refine GD.pure1 (i := 7) rfl (fun _ _ => rv_field fo_122_0 rfl rfl) ?_
    refine GD.read1 (i := 8) rfl (rv_loadAL ag_120 rfl (Hd.cells (k := 0) (us := ws32 hw) rfl (Sh.hc_hs h8 hl)) (by exact sz_120) (by ((simp only [ws32_len, ws8_len, Sh.extTo_len, Sh.iwTo_len, Sh.lwTo_len, Sh.sched_len, Sh.K64_len, Sh.addTo_len, Sh.compress_len, h8, Sh.rounds_len _ _ h8, List.length_replicate, List.length_set]; first | done | decide | omega)))) ?_
    refine GD.eachN4 (i := 3) (j := 9) (l := 10) (m := 11) (by kernel_rfl) rfl rfl rfl rfl ?_ ?_ ?_ ?_
    · refine ot_call hb_92 rfl (callOk fun w hh => spread_c b 8 blk w (Hd.cells (k := 0) (us := byts blk) rfl (Sh.hc_b h8 hl) w hh) hl) rfl fun _ _ => ⟨.inr fun _ h => h.pk [0], ?_⟩
      refine GD.eachN4 (i := 4) (j := 9) (l := 10) (m := 11) (by kernel_rfl) rfl rfl rfl rfl ?_ ?_ ?_ ?_
      · refine ot_call hb_93 rfl (callOk fun w hh => factors_c w) rfl fun _ _ => ⟨.inr fun _ h => h.pk [0], ?_⟩
        refine GD.eachN3 (i := 9) (j := 10) (l := 11) (by kernel_rfl) rfl rfl rfl ?_ ?_ ?_
        · refine ot_alloc (zs := ws32 (List.replicate 64 0)) zb_125 (rfl) rfl fun b2 => ⟨.inr fun _ h => h.pk [1], ?_⟩
          refine GD.eachN2 (i := 10) (j := 11) (by kernel_rfl) rfl rfl ?_ ?_
          · refine ot_alloc (zs := ws32 (List.replicate 64 0)) zb_125 (rfl) rfl fun b3 => ⟨.inr fun _ h => h.pk [2], ?_⟩
            refine GD.step (i := 11) (by kernel_rfl) rfl (ot_alloc (zs := ws32 (List.replicate 8 0)) zb_120 (rfl) rfl fun b4 => ⟨.inr fun _ h => h.pk [3], ?_⟩)
            refine GD.step (i := 12) (by kernel_rfl) rfl (ot_storeA (k := 2) rfl rfl rfl rfl (by exact sz_125) (by ((simp only [ws32_len, ws8_len, Sh.extTo_len, Sh.iwTo_len, Sh.lwTo_len, Sh.sched_len, Sh.K64_len, Sh.addTo_len, Sh.compress_len, h8, Sh.rounds_len _ _ h8, List.length_replicate, List.length_set]; first | done | decide | omega))) (by (decide)) (by exact ws32_one _) ⟨.inr fun _ h => h.pk [3], ?_⟩)
            refine GD.step (i := 13) (by kernel_rfl) rfl (ot_storeA (k := 1) rfl rfl rfl rfl (by exact sz_125) (by (decide)) (by (decide)) (by exact ws32_one _) ⟨.inr fun _ h => h.pk [3], ?_⟩)
            refine GD.step (i := 14) (by kernel_rfl) rfl (ot_storeA (k := 0) rfl rfl rfl rfl (by exact sz_120) (by ((simp only [ws32_len, ws8_len, Sh.extTo_len, Sh.iwTo_len, Sh.lwTo_len, Sh.sched_len, Sh.K64_len, Sh.addTo_len, Sh.compress_len, h8, Sh.rounds_len _ _ h8, List.length_replicate, List.length_set]; first | done | decide | omega))) (by (decide)) (by exact ws32_one _) ⟨.inr fun _ h => h.pk [3], ?_⟩)
            refine GD.done (by kernel_rfl) ?_
            exact GX.cutq (b2, b3, b4) trivial (by repeat (first | exact Sub.nil | refine Sub.cons rfl ?_)) (fun w9 h => by
                have h := h.sel [3, 0, 1, 2] rfl rfl
                exact h)
          · refine ot_alloc (zs := ws32 (List.replicate 8 0)) zb_120 (rfl) rfl fun b4 => ⟨.inr fun _ h => h.pk [2], ?_⟩
            refine GD.step (i := 10) (by kernel_rfl) rfl (ot_alloc (zs := ws32 (List.replicate 64 0)) zb_125 (rfl) rfl fun b3 => ⟨.inr fun _ h => h.pk [3], ?_⟩)
            refine GD.step (i := 12) (by kernel_rfl) rfl (ot_storeA (k := 2) rfl rfl rfl rfl (by exact sz_125) (by ((simp only [ws32_len, ws8_len, Sh.extTo_len, Sh.iwTo_len, Sh.lwTo_len, Sh.sched_len, Sh.K64_len, Sh.addTo_len, Sh.compress_len, h8, Sh.rounds_len _ _ h8, List.length_replicate, List.length_set]; first | done | decide | omega))) (by (decide)) (by exact ws32_one _) ⟨.inr fun _ h => h.pk [3], ?_⟩)
            refine GD.step (i := 13) (by kernel_rfl) rfl (ot_storeA (k := 0) rfl rfl rfl rfl (by exact sz_125) (by (decide)) (by (decide)) (by exact ws32_one _) ⟨.inr fun _ h => h.pk [3], ?_⟩)
            refine GD.step (i := 14) (by kernel_rfl) rfl (ot_storeA (k := 1) rfl rfl rfl rfl (by exact sz_120) (by ((simp only [ws32_len, ws8_len, Sh.extTo_len, Sh.iwTo_len, Sh.lwTo_len, Sh.sched_len, Sh.K64_len, Sh.addTo_len, Sh.compress_len, h8, Sh.rounds_len _ _ h8, List.length_replicate, List.length_set]; first | done | decide | omega))) (by (decide)) (by exact ws32_one _) ⟨.inr fun _ h => h.pk [3], ?_⟩)
            refine GD.done (by kernel_rfl) ?_
            exact GX.cutq (b2, b3, b4) trivial (by repeat (first | exact Sub.nil | refine Sub.cons rfl ?_)) (fun w9 h => by
                have h := h.sel [3, 1, 0, 2] rfl rfl
                exact h)
        · refine ot_alloc (zs := ws32 (List.replicate 64 0)) zb_125 (rfl) rfl fun b3 => ⟨.inr fun _ h => h.pk [1], ?_⟩
          refine GD.eachN2 (i := 9) (j := 11) (by kernel_rfl) rfl rfl ?_ ?_
          · refine ot_alloc (zs := ws32 (List.replicate 64 0)) zb_125 (rfl) rfl fun b2 => ⟨.inr fun _ h => h.pk [2], ?_⟩
            refine GD.step (i := 11) (by kernel_rfl) rfl (ot_alloc (zs := ws32 (List.replicate 8 0)) zb_120 (rfl) rfl fun b4 => ⟨.inr fun _ h => h.pk [3], ?_⟩)
            refine GD.step (i := 12) (by kernel_rfl) rfl (ot_storeA (k := 1) rfl rfl rfl rfl (by exact sz_125) (by ((simp only [ws32_len, ws8_len, Sh.extTo_len, Sh.iwTo_len, Sh.lwTo_len, Sh.sched_len, Sh.K64_len, Sh.addTo_len, Sh.compress_len, h8, Sh.rounds_len _ _ h8, List.length_replicate, List.length_set]; first | done | decide | omega))) (by (decide)) (by exact ws32_one _) ⟨.inr fun _ h => h.pk [3], ?_⟩)
            refine GD.step (i := 13) (by kernel_rfl) rfl (ot_storeA (k := 2) rfl rfl rfl rfl (by exact sz_125) (by (decide)) (by (decide)) (by exact ws32_one _) ⟨.inr fun _ h => h.pk [3], ?_⟩)
            refine GD.step (i := 14) (by kernel_rfl) rfl (ot_storeA (k := 0) rfl rfl rfl rfl (by exact sz_120) (by ((simp only [ws32_len, ws8_len, Sh.extTo_len, Sh.iwTo_len, Sh.lwTo_len, Sh.sched_len, Sh.K64_len, Sh.addTo_len, Sh.compress_len, h8, Sh.rounds_len _ _ h8, List.length_replicate, List.length_set]; first | done | decide | omega))) (by (decide)) (by exact ws32_one _) ⟨.inr fun _ h => h.pk [3], ?_⟩)
            refine GD.done (by kernel_rfl) ?_
            exact GX.cutq (b2, b3, b4) trivial (by repeat (first | exact Sub.nil | refine Sub.cons rfl ?_)) (fun w9 h => by
                have h := h.sel [3, 0, 2, 1] rfl rfl
                exact h)
          · refine ot_alloc (zs := ws32 (List.replicate 8 0)) zb_120 (rfl) rfl fun b4 => ⟨.inr fun _ h => h.pk [2], ?_⟩
            refine GD.step (i := 9) (by kernel_rfl) rfl (ot_alloc (zs := ws32 (List.replicate 64 0)) zb_125 (rfl) rfl fun b2 => ⟨.inr fun _ h => h.pk [3], ?_⟩)
            refine GD.step (i := 12) (by kernel_rfl) rfl (ot_storeA (k := 0) rfl rfl rfl rfl (by exact sz_125) (by ((simp only [ws32_len, ws8_len, Sh.extTo_len, Sh.iwTo_len, Sh.lwTo_len, Sh.sched_len, Sh.K64_len, Sh.addTo_len, Sh.compress_len, h8, Sh.rounds_len _ _ h8, List.length_replicate, List.length_set]; first | done | decide | omega))) (by (decide)) (by exact ws32_one _) ⟨.inr fun _ h => h.pk [3], ?_⟩)
            refine GD.step (i := 13) (by kernel_rfl) rfl (ot_storeA (k := 2) rfl rfl rfl rfl (by exact sz_125) (by (decide)) (by (decide)) (by exact ws32_one _) ⟨.inr fun _ h => h.pk [3], ?_⟩)
            refine GD.step (i := 14) (by kernel_rfl) rfl (ot_storeA (k := 1) rfl rfl rfl rfl (by exact sz_120) (by ((simp only [ws32_len, ws8_len, Sh.extTo_len, Sh.iwTo_len, Sh.lwTo_len, Sh.sched_len, Sh.K64_len, Sh.addTo_len, Sh.compress_len, h8, Sh.rounds_len _ _ h8, List.length_replicate, List.length_set]; first | done | decide | omega))) (by (decide)) (by exact ws32_one _) ⟨.inr fun _ h => h.pk [3], ?_⟩)
            refine GD.done (by kernel_rfl) ?_
            exact GX.cutq (b2, b3, b4) trivial (by repeat (first | exact Sub.nil | refine Sub.cons rfl ?_)) (fun w9 h => by
                have h := h.sel [3, 1, 2, 0] rfl rfl
                exact h)
        · refine ot_alloc (zs := ws32 (List.replicate 8 0)) zb_120 (rfl) rfl fun b4 => ⟨.inr fun _ h => h.pk [1], ?_⟩
          refine GD.eachN2 (i := 9) (j := 10) (by kernel_rfl) rfl rfl ?_ ?_
          · refine ot_alloc (zs := ws32 (List.replicate 64 0)) zb_125 (rfl) rfl fun b2 => ⟨.inr fun _ h => h.pk [2], ?_⟩
            refine GD.step (i := 10) (by kernel_rfl) rfl (ot_alloc (zs := ws32 (List.replicate 64 0)) zb_125 (rfl) rfl fun b3 => ⟨.inr fun _ h => h.pk [3], ?_⟩)
            refine GD.step (i := 12) (by kernel_rfl) rfl (ot_storeA (k := 1) rfl rfl rfl rfl (by exact sz_125) (by ((simp only [ws32_len, ws8_len, Sh.extTo_len, Sh.iwTo_len, Sh.lwTo_len, Sh.sched_len, Sh.K64_len, Sh.addTo_len, Sh.compress_len, h8, Sh.rounds_len _ _ h8, List.length_replicate, List.length_set]; first | done | decide | omega))) (by (decide)) (by exact ws32_one _) ⟨.inr fun _ h => h.pk [3], ?_⟩)
            refine GD.step (i := 13) (by kernel_rfl) rfl (ot_storeA (k := 0) rfl rfl rfl rfl (by exact sz_125) (by (decide)) (by (decide)) (by exact ws32_one _) ⟨.inr fun _ h => h.pk [3], ?_⟩)
            refine GD.step (i := 14) (by kernel_rfl) rfl (ot_storeA (k := 2) rfl rfl rfl rfl (by exact sz_120) (by ((simp only [ws32_len, ws8_len, Sh.extTo_len, Sh.iwTo_len, Sh.lwTo_len, Sh.sched_len, Sh.K64_len, Sh.addTo_len, Sh.compress_len, h8, Sh.rounds_len _ _ h8, List.length_replicate, List.length_set]; first | done | decide | omega))) (by (decide)) (by exact ws32_one _) ⟨.inr fun _ h => h.pk [3], ?_⟩)
            refine GD.done (by kernel_rfl) ?_
            exact GX.cutq (b2, b3, b4) trivial (by repeat (first | exact Sub.nil | refine Sub.cons rfl ?_)) (fun w9 h => by
                have h := h.sel [3, 2, 0, 1] rfl rfl
                exact h)
          · refine ot_alloc (zs := ws32 (List.replicate 64 0)) zb_125 (rfl) rfl fun b3 => ⟨.inr fun _ h => h.pk [2], ?_⟩
            refine GD.step (i := 9) (by kernel_rfl) rfl (ot_alloc (zs := ws32 (List.replicate 64 0)) zb_125 (rfl) rfl fun b2 => ⟨.inr fun _ h => h.pk [3], ?_⟩)
            refine GD.step (i := 12) (by kernel_rfl) rfl (ot_storeA (k := 0) rfl rfl rfl rfl (by exact sz_125) (by ((simp only [ws32_len, ws8_len, Sh.extTo_len, Sh.iwTo_len, Sh.lwTo_len, Sh.sched_len, Sh.K64_len, Sh.addTo_len, Sh.compress_len, h8, Sh.rounds_len _ _ h8, List.length_replicate, List.length_set]; first | done | decide | omega))) (by (decide)) (by exact ws32_one _) ⟨.inr fun _ h => h.pk [3], ?_⟩)
            refine GD.step (i := 13) (by kernel_rfl) rfl (ot_storeA (k := 1) rfl rfl rfl rfl (by exact sz_125) (by (decide)) (by (decide)) (by exact ws32_one _) ⟨.inr fun _ h => h.pk [3], ?_⟩)
            refine GD.step (i := 14) (by kernel_rfl) rfl (ot_storeA (k := 2) rfl rfl rfl rfl (by exact sz_120) (by ((simp only [ws32_len, ws8_len, Sh.extTo_len, Sh.iwTo_len, Sh.lwTo_len, Sh.sched_len, Sh.K64_len, Sh.addTo_len, Sh.compress_len, h8, Sh.rounds_len _ _ h8, List.length_replicate, List.length_set]; first | done | decide | omega))) (by (decide)) (by exact ws32_one _) ⟨.inr fun _ h => h.pk [3], ?_⟩)
            refine GD.done (by kernel_rfl) ?_
            exact GX.cutq (b2, b3, b4) trivial (by repeat (first | exact Sub.nil | refine Sub.cons rfl ?_)) (fun w9 h => by
                exact h)
      · refine ot_alloc (zs := ws32 (List.replicate 64 0)) zb_125 (rfl) rfl fun b2 => ⟨.inr fun _ h => h.pk [1], ?_⟩
        refine GD.eachN3 (i := 4) (j := 10) (l := 11) (by kernel_rfl) rfl rfl rfl ?_ ?_ ?_
        · refine ot_call hb_93 rfl (callOk fun w hh => factors_c w) rfl fun _ _ => ⟨.inr fun _ h => h.pk [1], ?_⟩
          refine GD.eachN2 (i := 10) (j := 11) (by kernel_rfl) rfl rfl ?_ ?_
          · refine ot_alloc (zs := ws32 (List.replicate 64 0)) zb_125 (rfl) rfl fun b3 => ⟨.inr fun _ h => h.pk [2], ?_⟩
            refine GD.step (i := 11) (by kernel_rfl) rfl (ot_alloc (zs := ws32 (List.replicate 8 0)) zb_120 (rfl) rfl fun b4 => ⟨.inr fun _ h => h.pk [3], ?_⟩)
            refine GD.step (i := 12) (by kernel_rfl) rfl (ot_storeA (k := 2) rfl rfl rfl rfl (by exact sz_125) (by ((simp only [ws32_len, ws8_len, Sh.extTo_len, Sh.iwTo_len, Sh.lwTo_len, Sh.sched_len, Sh.K64_len, Sh.addTo_len, Sh.compress_len, h8, Sh.rounds_len _ _ h8, List.length_replicate, List.length_set]; first | done | decide | omega))) (by (decide)) (by exact ws32_one _) ⟨.inr fun _ h => h.pk [3], ?_⟩)
            refine GD.step (i := 13) (by kernel_rfl) rfl (ot_storeA (k := 1) rfl rfl rfl rfl (by exact sz_125) (by (decide)) (by (decide)) (by exact ws32_one _) ⟨.inr fun _ h => h.pk [3], ?_⟩)
            refine GD.step (i := 14) (by kernel_rfl) rfl (ot_storeA (k := 0) rfl rfl rfl rfl (by exact sz_120) (by ((simp only [ws32_len, ws8_len, Sh.extTo_len, Sh.iwTo_len, Sh.lwTo_len, Sh.sched_len, Sh.K64_len, Sh.addTo_len, Sh.compress_len, h8, Sh.rounds_len _ _ h8, List.length_replicate, List.length_set]; first | done | decide | omega))) (by (decide)) (by exact ws32_one _) ⟨.inr fun _ h => h.pk [3], ?_⟩)
            refine GD.done (by kernel_rfl) ?_
            exact GX.cutq (b2, b3, b4) trivial (by repeat (first | exact Sub.nil | refine Sub.cons rfl ?_)) (fun w9 h => by
                have h := h.sel [3, 0, 1, 2] rfl rfl
                exact h)
          · refine ot_alloc (zs := ws32 (List.replicate 8 0)) zb_120 (rfl) rfl fun b4 => ⟨.inr fun _ h => h.pk [2], ?_⟩
            refine GD.step (i := 10) (by kernel_rfl) rfl (ot_alloc (zs := ws32 (List.replicate 64 0)) zb_125 (rfl) rfl fun b3 => ⟨.inr fun _ h => h.pk [3], ?_⟩)
            refine GD.step (i := 12) (by kernel_rfl) rfl (ot_storeA (k := 2) rfl rfl rfl rfl (by exact sz_125) (by ((simp only [ws32_len, ws8_len, Sh.extTo_len, Sh.iwTo_len, Sh.lwTo_len, Sh.sched_len, Sh.K64_len, Sh.addTo_len, Sh.compress_len, h8, Sh.rounds_len _ _ h8, List.length_replicate, List.length_set]; first | done | decide | omega))) (by (decide)) (by exact ws32_one _) ⟨.inr fun _ h => h.pk [3], ?_⟩)
            refine GD.step (i := 13) (by kernel_rfl) rfl (ot_storeA (k := 0) rfl rfl rfl rfl (by exact sz_125) (by (decide)) (by (decide)) (by exact ws32_one _) ⟨.inr fun _ h => h.pk [3], ?_⟩)
            refine GD.step (i := 14) (by kernel_rfl) rfl (ot_storeA (k := 1) rfl rfl rfl rfl (by exact sz_120) (by ((simp only [ws32_len, ws8_len, Sh.extTo_len, Sh.iwTo_len, Sh.lwTo_len, Sh.sched_len, Sh.K64_len, Sh.addTo_len, Sh.compress_len, h8, Sh.rounds_len _ _ h8, List.length_replicate, List.length_set]; first | done | decide | omega))) (by (decide)) (by exact ws32_one _) ⟨.inr fun _ h => h.pk [3], ?_⟩)
            refine GD.done (by kernel_rfl) ?_
            exact GX.cutq (b2, b3, b4) trivial (by repeat (first | exact Sub.nil | refine Sub.cons rfl ?_)) (fun w9 h => by
                have h := h.sel [3, 1, 0, 2] rfl rfl
                exact h)
        · refine ot_alloc (zs := ws32 (List.replicate 64 0)) zb_125 (rfl) rfl fun b3 => ⟨.inr fun _ h => h.pk [2], ?_⟩
          refine GD.eachN2 (i := 4) (j := 11) (by kernel_rfl) rfl rfl ?_ ?_
          · refine ot_call hb_93 rfl (callOk fun w hh => factors_c w) rfl fun _ _ => ⟨.inr fun _ h => h.pk [2], ?_⟩
            refine GD.step (i := 11) (by kernel_rfl) rfl (ot_alloc (zs := ws32 (List.replicate 8 0)) zb_120 (rfl) rfl fun b4 => ⟨.inr fun _ h => h.pk [3], ?_⟩)
            refine GD.step (i := 12) (by kernel_rfl) rfl (ot_storeA (k := 2) rfl rfl rfl rfl (by exact sz_125) (by ((simp only [ws32_len, ws8_len, Sh.extTo_len, Sh.iwTo_len, Sh.lwTo_len, Sh.sched_len, Sh.K64_len, Sh.addTo_len, Sh.compress_len, h8, Sh.rounds_len _ _ h8, List.length_replicate, List.length_set]; first | done | decide | omega))) (by (decide)) (by exact ws32_one _) ⟨.inr fun _ h => h.pk [3], ?_⟩)
            refine GD.step (i := 13) (by kernel_rfl) rfl (ot_storeA (k := 1) rfl rfl rfl rfl (by exact sz_125) (by (decide)) (by (decide)) (by exact ws32_one _) ⟨.inr fun _ h => h.pk [3], ?_⟩)
            refine GD.step (i := 14) (by kernel_rfl) rfl (ot_storeA (k := 0) rfl rfl rfl rfl (by exact sz_120) (by ((simp only [ws32_len, ws8_len, Sh.extTo_len, Sh.iwTo_len, Sh.lwTo_len, Sh.sched_len, Sh.K64_len, Sh.addTo_len, Sh.compress_len, h8, Sh.rounds_len _ _ h8, List.length_replicate, List.length_set]; first | done | decide | omega))) (by (decide)) (by exact ws32_one _) ⟨.inr fun _ h => h.pk [3], ?_⟩)
            refine GD.done (by kernel_rfl) ?_
            exact GX.cutq (b2, b3, b4) trivial (by repeat (first | exact Sub.nil | refine Sub.cons rfl ?_)) (fun w9 h => by
                have h := h.sel [3, 0, 1, 2] rfl rfl
                exact h)
          · refine ot_alloc (zs := ws32 (List.replicate 8 0)) zb_120 (rfl) rfl fun b4 => ⟨.inr fun _ h => h.pk [3], ?_⟩
            refine GD.step (i := 4) (by kernel_rfl) rfl (ot_call hb_93 rfl (callOk fun w hh => factors_c w) rfl fun _ _ => ⟨.inr fun _ h => h.pk [3], ?_⟩)
            refine GD.step (i := 12) (by kernel_rfl) rfl (ot_storeA (k := 2) rfl rfl rfl rfl (by exact sz_125) (by ((simp only [ws32_len, ws8_len, Sh.extTo_len, Sh.iwTo_len, Sh.lwTo_len, Sh.sched_len, Sh.K64_len, Sh.addTo_len, Sh.compress_len, h8, Sh.rounds_len _ _ h8, List.length_replicate, List.length_set]; first | done | decide | omega))) (by (decide)) (by exact ws32_one _) ⟨.inr fun _ h => h.pk [3], ?_⟩)
            refine GD.step (i := 13) (by kernel_rfl) rfl (ot_storeA (k := 1) rfl rfl rfl rfl (by exact sz_125) (by (decide)) (by (decide)) (by exact ws32_one _) ⟨.inr fun _ h => h.pk [3], ?_⟩)
            refine GD.step (i := 14) (by kernel_rfl) rfl (ot_storeA (k := 0) rfl rfl rfl rfl (by exact sz_120) (by ((simp only [ws32_len, ws8_len, Sh.extTo_len, Sh.iwTo_len, Sh.lwTo_len, Sh.sched_len, Sh.K64_len, Sh.addTo_len, Sh.compress_len, h8, Sh.rounds_len _ _ h8, List.length_replicate, List.length_set]; first | done | decide | omega))) (by (decide)) (by exact ws32_one _) ⟨.inr fun _ h => h.pk [3], ?_⟩)
            refine GD.done (by kernel_rfl) ?_
            exact GX.cutq (b2, b3, b4) trivial (by repeat (first | exact Sub.nil | refine Sub.cons rfl ?_)) (fun w9 h => by
                have h := h.sel [3, 0, 1, 2] rfl rfl
                exact h)
        · refine ot_alloc (zs := ws32 (List.replicate 8 0)) zb_120 (rfl) rfl fun b4 => ⟨.inr fun _ h => h.pk [2], ?_⟩
          refine GD.eachN2 (i := 4) (j := 10) (by kernel_rfl) rfl rfl ?_ ?_
          · refine ot_call hb_93 rfl (callOk fun w hh => factors_c w) rfl fun _ _ => ⟨.inr fun _ h => h.pk [2], ?_⟩
            refine GD.step (i := 10) (by kernel_rfl) rfl (ot_alloc (zs := ws32 (List.replicate 64 0)) zb_125 (rfl) rfl fun b3 => ⟨.inr fun _ h => h.pk [3], ?_⟩)
            refine GD.step (i := 12) (by kernel_rfl) rfl (ot_storeA (k := 2) rfl rfl rfl rfl (by exact sz_125) (by ((simp only [ws32_len, ws8_len, Sh.extTo_len, Sh.iwTo_len, Sh.lwTo_len, Sh.sched_len, Sh.K64_len, Sh.addTo_len, Sh.compress_len, h8, Sh.rounds_len _ _ h8, List.length_replicate, List.length_set]; first | done | decide | omega))) (by (decide)) (by exact ws32_one _) ⟨.inr fun _ h => h.pk [3], ?_⟩)
            refine GD.step (i := 13) (by kernel_rfl) rfl (ot_storeA (k := 0) rfl rfl rfl rfl (by exact sz_125) (by (decide)) (by (decide)) (by exact ws32_one _) ⟨.inr fun _ h => h.pk [3], ?_⟩)
            refine GD.step (i := 14) (by kernel_rfl) rfl (ot_storeA (k := 1) rfl rfl rfl rfl (by exact sz_120) (by ((simp only [ws32_len, ws8_len, Sh.extTo_len, Sh.iwTo_len, Sh.lwTo_len, Sh.sched_len, Sh.K64_len, Sh.addTo_len, Sh.compress_len, h8, Sh.rounds_len _ _ h8, List.length_replicate, List.length_set]; first | done | decide | omega))) (by (decide)) (by exact ws32_one _) ⟨.inr fun _ h => h.pk [3], ?_⟩)
            refine GD.done (by kernel_rfl) ?_
            exact GX.cutq (b2, b3, b4) trivial (by repeat (first | exact Sub.nil | refine Sub.cons rfl ?_)) (fun w9 h => by
                have h := h.sel [3, 1, 0, 2] rfl rfl
                exact h)
          · refine ot_alloc (zs := ws32 (List.replicate 64 0)) zb_125 (rfl) rfl fun b3 => ⟨.inr fun _ h => h.pk [3], ?_⟩
            refine GD.step (i := 4) (by kernel_rfl) rfl (ot_call hb_93 rfl (callOk fun w hh => factors_c w) rfl fun _ _ => ⟨.inr fun _ h => h.pk [3], ?_⟩)
            refine GD.step (i := 12) (by kernel_rfl) rfl (ot_storeA (k := 2) rfl rfl rfl rfl (by exact sz_125) (by ((simp only [ws32_len, ws8_len, Sh.extTo_len, Sh.iwTo_len, Sh.lwTo_len, Sh.sched_len, Sh.K64_len, Sh.addTo_len, Sh.compress_len, h8, Sh.rounds_len _ _ h8, List.length_replicate, List.length_set]; first | done | decide | omega))) (by (decide)) (by exact ws32_one _) ⟨.inr fun _ h => h.pk [3], ?_⟩)
            refine GD.step (i := 13) (by kernel_rfl) rfl (ot_storeA (k := 0) rfl rfl rfl rfl (by exact sz_125) (by (decide)) (by (decide)) (by exact ws32_one _) ⟨.inr fun _ h => h.pk [3], ?_⟩)
            refine GD.step (i := 14) (by kernel_rfl) rfl (ot_storeA (k := 1) rfl rfl rfl rfl (by exact sz_120) (by ((simp only [ws32_len, ws8_len, Sh.extTo_len, Sh.iwTo_len, Sh.lwTo_len, Sh.sched_len, Sh.K64_len, Sh.addTo_len, Sh.compress_len, h8, Sh.rounds_len _ _ h8, List.length_replicate, List.length_set]; first | done | decide | omega))) (by (decide)) (by exact ws32_one _) ⟨.inr fun _ h => h.pk [3], ?_⟩)
            refine GD.done (by kernel_rfl) ?_
            exact GX.cutq (b2, b3, b4) trivial (by repeat (first | exact Sub.nil | refine Sub.cons rfl ?_)) (fun w9 h => by
                have h := h.sel [3, 1, 0, 2] rfl rfl
                exact h)
      · refine ot_alloc (zs := ws32 (List.replicate 64 0)) zb_125 (rfl) rfl fun b3 => ⟨.inr fun _ h => h.pk [1], ?_⟩
        refine GD.eachN3 (i := 4) (j := 9) (l := 11) (by kernel_rfl) rfl rfl rfl ?_ ?_ ?_
        · refine ot_call hb_93 rfl (callOk fun w hh => factors_c w) rfl fun _ _ => ⟨.inr fun _ h => h.pk [1], ?_⟩
          refine GD.eachN2 (i := 9) (j := 11) (by kernel_rfl) rfl rfl ?_ ?_
          · refine ot_alloc (zs := ws32 (List.replicate 64 0)) zb_125 (rfl) rfl fun b2 => ⟨.inr fun _ h => h.pk [2], ?_⟩
            refine GD.step (i := 11) (by kernel_rfl) rfl (ot_alloc (zs := ws32 (List.replicate 8 0)) zb_120 (rfl) rfl fun b4 => ⟨.inr fun _ h => h.pk [3], ?_⟩)
            refine GD.step (i := 12) (by kernel_rfl) rfl (ot_storeA (k := 1) rfl rfl rfl rfl (by exact sz_125) (by ((simp only [ws32_len, ws8_len, Sh.extTo_len, Sh.iwTo_len, Sh.lwTo_len, Sh.sched_len, Sh.K64_len, Sh.addTo_len, Sh.compress_len, h8, Sh.rounds_len _ _ h8, List.length_replicate, List.length_set]; first | done | decide | omega))) (by (decide)) (by exact ws32_one _) ⟨.inr fun _ h => h.pk [3], ?_⟩)
            refine GD.step (i := 13) (by kernel_rfl) rfl (ot_storeA (k := 2) rfl rfl rfl rfl (by exact sz_125) (by (decide)) (by (decide)) (by exact ws32_one _) ⟨.inr fun _ h => h.pk [3], ?_⟩)
            refine GD.step (i := 14) (by kernel_rfl) rfl (ot_storeA (k := 0) rfl rfl rfl rfl (by exact sz_120) (by ((simp only [ws32_len, ws8_len, Sh.extTo_len, Sh.iwTo_len, Sh.lwTo_len, Sh.sched_len, Sh.K64_len, Sh.addTo_len, Sh.compress_len, h8, Sh.rounds_len _ _ h8, List.length_replicate, List.length_set]; first | done | decide | omega))) (by (decide)) (by exact ws32_one _) ⟨.inr fun _ h => h.pk [3], ?_⟩)
            refine GD.done (by kernel_rfl) ?_
            exact GX.cutq (b2, b3, b4) trivial (by repeat (first | exact Sub.nil | refine Sub.cons rfl ?_)) (fun w9 h => by
                have h := h.sel [3, 0, 2, 1] rfl rfl
                exact h)
          · refine ot_alloc (zs := ws32 (List.replicate 8 0)) zb_120 (rfl) rfl fun b4 => ⟨.inr fun _ h => h.pk [2], ?_⟩
            refine GD.step (i := 9) (by kernel_rfl) rfl (ot_alloc (zs := ws32 (List.replicate 64 0)) zb_125 (rfl) rfl fun b2 => ⟨.inr fun _ h => h.pk [3], ?_⟩)
            refine GD.step (i := 12) (by kernel_rfl) rfl (ot_storeA (k := 0) rfl rfl rfl rfl (by exact sz_125) (by ((simp only [ws32_len, ws8_len, Sh.extTo_len, Sh.iwTo_len, Sh.lwTo_len, Sh.sched_len, Sh.K64_len, Sh.addTo_len, Sh.compress_len, h8, Sh.rounds_len _ _ h8, List.length_replicate, List.length_set]; first | done | decide | omega))) (by (decide)) (by exact ws32_one _) ⟨.inr fun _ h => h.pk [3], ?_⟩)
            refine GD.step (i := 13) (by kernel_rfl) rfl (ot_storeA (k := 2) rfl rfl rfl rfl (by exact sz_125) (by (decide)) (by (decide)) (by exact ws32_one _) ⟨.inr fun _ h => h.pk [3], ?_⟩)
            refine GD.step (i := 14) (by kernel_rfl) rfl (ot_storeA (k := 1) rfl rfl rfl rfl (by exact sz_120) (by ((simp only [ws32_len, ws8_len, Sh.extTo_len, Sh.iwTo_len, Sh.lwTo_len, Sh.sched_len, Sh.K64_len, Sh.addTo_len, Sh.compress_len, h8, Sh.rounds_len _ _ h8, List.length_replicate, List.length_set]; first | done | decide | omega))) (by (decide)) (by exact ws32_one _) ⟨.inr fun _ h => h.pk [3], ?_⟩)
            refine GD.done (by kernel_rfl) ?_
            exact GX.cutq (b2, b3, b4) trivial (by repeat (first | exact Sub.nil | refine Sub.cons rfl ?_)) (fun w9 h => by
                have h := h.sel [3, 1, 2, 0] rfl rfl
                exact h)
        · refine ot_alloc (zs := ws32 (List.replicate 64 0)) zb_125 (rfl) rfl fun b2 => ⟨.inr fun _ h => h.pk [2], ?_⟩
          refine GD.eachN2 (i := 4) (j := 11) (by kernel_rfl) rfl rfl ?_ ?_
          · refine ot_call hb_93 rfl (callOk fun w hh => factors_c w) rfl fun _ _ => ⟨.inr fun _ h => h.pk [2], ?_⟩
            refine GD.step (i := 11) (by kernel_rfl) rfl (ot_alloc (zs := ws32 (List.replicate 8 0)) zb_120 (rfl) rfl fun b4 => ⟨.inr fun _ h => h.pk [3], ?_⟩)
            refine GD.step (i := 12) (by kernel_rfl) rfl (ot_storeA (k := 1) rfl rfl rfl rfl (by exact sz_125) (by ((simp only [ws32_len, ws8_len, Sh.extTo_len, Sh.iwTo_len, Sh.lwTo_len, Sh.sched_len, Sh.K64_len, Sh.addTo_len, Sh.compress_len, h8, Sh.rounds_len _ _ h8, List.length_replicate, List.length_set]; first | done | decide | omega))) (by (decide)) (by exact ws32_one _) ⟨.inr fun _ h => h.pk [3], ?_⟩)
            refine GD.step (i := 13) (by kernel_rfl) rfl (ot_storeA (k := 2) rfl rfl rfl rfl (by exact sz_125) (by (decide)) (by (decide)) (by exact ws32_one _) ⟨.inr fun _ h => h.pk [3], ?_⟩)
            refine GD.step (i := 14) (by kernel_rfl) rfl (ot_storeA (k := 0) rfl rfl rfl rfl (by exact sz_120) (by ((simp only [ws32_len, ws8_len, Sh.extTo_len, Sh.iwTo_len, Sh.lwTo_len, Sh.sched_len, Sh.K64_len, Sh.addTo_len, Sh.compress_len, h8, Sh.rounds_len _ _ h8, List.length_replicate, List.length_set]; first | done | decide | omega))) (by (decide)) (by exact ws32_one _) ⟨.inr fun _ h => h.pk [3], ?_⟩)
            refine GD.done (by kernel_rfl) ?_
            exact GX.cutq (b2, b3, b4) trivial (by repeat (first | exact Sub.nil | refine Sub.cons rfl ?_)) (fun w9 h => by
                have h := h.sel [3, 0, 2, 1] rfl rfl
                exact h)
          · refine ot_alloc (zs := ws32 (List.replicate 8 0)) zb_120 (rfl) rfl fun b4 => ⟨.inr fun _ h => h.pk [3], ?_⟩
            refine GD.step (i := 4) (by kernel_rfl) rfl (ot_call hb_93 rfl (callOk fun w hh => factors_c w) rfl fun _ _ => ⟨.inr fun _ h => h.pk [3], ?_⟩)
            refine GD.step (i := 12) (by kernel_rfl) rfl (ot_storeA (k := 1) rfl rfl rfl rfl (by exact sz_125) (by ((simp only [ws32_len, ws8_len, Sh.extTo_len, Sh.iwTo_len, Sh.lwTo_len, Sh.sched_len, Sh.K64_len, Sh.addTo_len, Sh.compress_len, h8, Sh.rounds_len _ _ h8, List.length_replicate, List.length_set]; first | done | decide | omega))) (by (decide)) (by exact ws32_one _) ⟨.inr fun _ h => h.pk [3], ?_⟩)
            refine GD.step (i := 13) (by kernel_rfl) rfl (ot_storeA (k := 2) rfl rfl rfl rfl (by exact sz_125) (by (decide)) (by (decide)) (by exact ws32_one _) ⟨.inr fun _ h => h.pk [3], ?_⟩)
            refine GD.step (i := 14) (by kernel_rfl) rfl (ot_storeA (k := 0) rfl rfl rfl rfl (by exact sz_120) (by ((simp only [ws32_len, ws8_len, Sh.extTo_len, Sh.iwTo_len, Sh.lwTo_len, Sh.sched_len, Sh.K64_len, Sh.addTo_len, Sh.compress_len, h8, Sh.rounds_len _ _ h8, List.length_replicate, List.length_set]; first | done | decide | omega))) (by (decide)) (by exact ws32_one _) ⟨.inr fun _ h => h.pk [3], ?_⟩)
            refine GD.done (by kernel_rfl) ?_
            exact GX.cutq (b2, b3, b4) trivial (by repeat (first | exact Sub.nil | refine Sub.cons rfl ?_)) (fun w9 h => by
                have h := h.sel [3, 0, 2, 1] rfl rfl
                exact h)
        · refine ot_alloc (zs := ws32 (List.replicate 8 0)) zb_120 (rfl) rfl fun b4 => ⟨.inr fun _ h => h.pk [2], ?_⟩
          refine GD.eachN2 (i := 4) (j := 9) (by kernel_rfl) rfl rfl ?_ ?_
          · refine ot_call hb_93 rfl (callOk fun w hh => factors_c w) rfl fun _ _ => ⟨.inr fun _ h => h.pk [2], ?_⟩
            refine GD.step (i := 9) (by kernel_rfl) rfl (ot_alloc (zs := ws32 (List.replicate 64 0)) zb_125 (rfl) rfl fun b2 => ⟨.inr fun _ h => h.pk [3], ?_⟩)
            refine GD.step (i := 12) (by kernel_rfl) rfl (ot_storeA (k := 0) rfl rfl rfl rfl (by exact sz_125) (by ((simp only [ws32_len, ws8_len, Sh.extTo_len, Sh.iwTo_len, Sh.lwTo_len, Sh.sched_len, Sh.K64_len, Sh.addTo_len, Sh.compress_len, h8, Sh.rounds_len _ _ h8, List.length_replicate, List.length_set]; first | done | decide | omega))) (by (decide)) (by exact ws32_one _) ⟨.inr fun _ h => h.pk [3], ?_⟩)
            refine GD.step (i := 13) (by kernel_rfl) rfl (ot_storeA (k := 2) rfl rfl rfl rfl (by exact sz_125) (by (decide)) (by (decide)) (by exact ws32_one _) ⟨.inr fun _ h => h.pk [3], ?_⟩)
            refine GD.step (i := 14) (by kernel_rfl) rfl (ot_storeA (k := 1) rfl rfl rfl rfl (by exact sz_120) (by ((simp only [ws32_len, ws8_len, Sh.extTo_len, Sh.iwTo_len, Sh.lwTo_len, Sh.sched_len, Sh.K64_len, Sh.addTo_len, Sh.compress_len, h8, Sh.rounds_len _ _ h8, List.length_replicate, List.length_set]; first | done | decide | omega))) (by (decide)) (by exact ws32_one _) ⟨.inr fun _ h => h.pk [3], ?_⟩)
            refine GD.done (by kernel_rfl) ?_
            exact GX.cutq (b2, b3, b4) trivial (by repeat (first | exact Sub.nil | refine Sub.cons rfl ?_)) (fun w9 h => by
                have h := h.sel [3, 1, 2, 0] rfl rfl
                exact h)
          · refine ot_alloc (zs := ws32 (List.replicate 64 0)) zb_125 (rfl) rfl fun b2 => ⟨.inr fun _ h => h.pk [3], ?_⟩
            refine GD.step (i := 4) (by kernel_rfl) rfl (ot_call hb_93 rfl (callOk fun w hh => factors_c w) rfl fun _ _ => ⟨.inr fun _ h => h.pk [3], ?_⟩)
            refine GD.step (i := 12) (by kernel_rfl) rfl (ot_storeA (k := 0) rfl rfl rfl rfl (by exact sz_125) (by ((simp only [ws32_len, ws8_len, Sh.extTo_len, Sh.iwTo_len, Sh.lwTo_len, Sh.sched_len, Sh.K64_len, Sh.addTo_len, Sh.compress_len, h8, Sh.rounds_len _ _ h8, List.length_replicate, List.length_set]; first | done | decide | omega))) (by (decide)) (by exact ws32_one _) ⟨.inr fun _ h => h.pk [3], ?_⟩)
            refine GD.step (i := 13) (by kernel_rfl) rfl (ot_storeA (k := 2) rfl rfl rfl rfl (by exact sz_125) (by (decide)) (by (decide)) (by exact ws32_one _) ⟨.inr fun _ h => h.pk [3], ?_⟩)
            refine GD.step (i := 14) (by kernel_rfl) rfl (ot_storeA (k := 1) rfl rfl rfl rfl (by exact sz_120) (by ((simp only [ws32_len, ws8_len, Sh.extTo_len, Sh.iwTo_len, Sh.lwTo_len, Sh.sched_len, Sh.K64_len, Sh.addTo_len, Sh.compress_len, h8, Sh.rounds_len _ _ h8, List.length_replicate, List.length_set]; first | done | decide | omega))) (by (decide)) (by exact ws32_one _) ⟨.inr fun _ h => h.pk [3], ?_⟩)
            refine GD.done (by kernel_rfl) ?_
            exact GX.cutq (b2, b3, b4) trivial (by repeat (first | exact Sub.nil | refine Sub.cons rfl ?_)) (fun w9 h => by
                have h := h.sel [3, 1, 2, 0] rfl rfl
                exact h)
      · refine ot_alloc (zs := ws32 (List.replicate 8 0)) zb_120 (rfl) rfl fun b4 => ⟨.inr fun _ h => h.pk [1], ?_⟩
        refine GD.eachN3 (i := 4) (j := 9) (l := 10) (by kernel_rfl) rfl rfl rfl ?_ ?_ ?_
        · refine ot_call hb_93 rfl (callOk fun w hh => factors_c w) rfl fun _ _ => ⟨.inr fun _ h => h.pk [1], ?_⟩
          refine GD.eachN2 (i := 9) (j := 10) (by kernel_rfl) rfl rfl ?_ ?_
          · refine ot_alloc (zs := ws32 (List.replicate 64 0)) zb_125 (rfl) rfl fun b2 => ⟨.inr fun _ h => h.pk [2], ?_⟩
            refine GD.step (i := 10) (by kernel_rfl) rfl (ot_alloc (zs := ws32 (List.replicate 64 0)) zb_125 (rfl) rfl fun b3 => ⟨.inr fun _ h => h.pk [3], ?_⟩)
            refine GD.step (i := 12) (by kernel_rfl) rfl (ot_storeA (k := 1) rfl rfl rfl rfl (by exact sz_125) (by ((simp only [ws32_len, ws8_len, Sh.extTo_len, Sh.iwTo_len, Sh.lwTo_len, Sh.sched_len, Sh.K64_len, Sh.addTo_len, Sh.compress_len, h8, Sh.rounds_len _ _ h8, List.length_replicate, List.length_set]; first | done | decide | omega))) (by (decide)) (by exact ws32_one _) ⟨.inr fun _ h => h.pk [3], ?_⟩)
            refine GD.step (i := 13) (by kernel_rfl) rfl (ot_storeA (k := 0) rfl rfl rfl rfl (by exact sz_125) (by (decide)) (by (decide)) (by exact ws32_one _) ⟨.inr fun _ h => h.pk [3], ?_⟩)
            refine GD.step (i := 14) (by kernel_rfl) rfl (ot_storeA (k := 2) rfl rfl rfl rfl (by exact sz_120) (by ((simp only [ws32_len, ws8_len, Sh.extTo_len, Sh.iwTo_len, Sh.lwTo_len, Sh.sched_len, Sh.K64_len, Sh.addTo_len, Sh.compress_len, h8, Sh.rounds_len _ _ h8, List.length_replicate, List.length_set]; first | done | decide | omega))) (by (decide)) (by exact ws32_one _) ⟨.inr fun _ h => h.pk [3], ?_⟩)
            refine GD.done (by kernel_rfl) ?_
            exact GX.cutq (b2, b3, b4) trivial (by repeat (first | exact Sub.nil | refine Sub.cons rfl ?_)) (fun w9 h => by
                have h := h.sel [3, 2, 0, 1] rfl rfl
                exact h)
          · refine ot_alloc (zs := ws32 (List.replicate 64 0)) zb_125 (rfl) rfl fun b3 => ⟨.inr fun _ h => h.pk [2], ?_⟩
            refine GD.step (i := 9) (by kernel_rfl) rfl (ot_alloc (zs := ws32 (List.replicate 64 0)) zb_125 (rfl) rfl fun b2 => ⟨.inr fun _ h => h.pk [3], ?_⟩)
            refine GD.step (i := 12) (by kernel_rfl) rfl (ot_storeA (k := 0) rfl rfl rfl rfl (by exact sz_125) (by ((simp only [ws32_len, ws8_len, Sh.extTo_len, Sh.iwTo_len, Sh.lwTo_len, Sh.sched_len, Sh.K64_len, Sh.addTo_len, Sh.compress_len, h8, Sh.rounds_len _ _ h8, List.length_replicate, List.length_set]; first | done | decide | omega))) (by (decide)) (by exact ws32_one _) ⟨.inr fun _ h => h.pk [3], ?_⟩)
            refine GD.step (i := 13) (by kernel_rfl) rfl (ot_storeA (k := 1) rfl rfl rfl rfl (by exact sz_125) (by (decide)) (by (decide)) (by exact ws32_one _) ⟨.inr fun _ h => h.pk [3], ?_⟩)
            refine GD.step (i := 14) (by kernel_rfl) rfl (ot_storeA (k := 2) rfl rfl rfl rfl (by exact sz_120) (by ((simp only [ws32_len, ws8_len, Sh.extTo_len, Sh.iwTo_len, Sh.lwTo_len, Sh.sched_len, Sh.K64_len, Sh.addTo_len, Sh.compress_len, h8, Sh.rounds_len _ _ h8, List.length_replicate, List.length_set]; first | done | decide | omega))) (by (decide)) (by exact ws32_one _) ⟨.inr fun _ h => h.pk [3], ?_⟩)
            refine GD.done (by kernel_rfl) ?_
            exact GX.cutq (b2, b3, b4) trivial (by repeat (first | exact Sub.nil | refine Sub.cons rfl ?_)) (fun w9 h => by
                exact h)
        · refine ot_alloc (zs := ws32 (List.replicate 64 0)) zb_125 (rfl) rfl fun b2 => ⟨.inr fun _ h => h.pk [2], ?_⟩
          refine GD.eachN2 (i := 4) (j := 10) (by kernel_rfl) rfl rfl ?_ ?_
          · refine ot_call hb_93 rfl (callOk fun w hh => factors_c w) rfl fun _ _ => ⟨.inr fun _ h => h.pk [2], ?_⟩
            refine GD.step (i := 10) (by kernel_rfl) rfl (ot_alloc (zs := ws32 (List.replicate 64 0)) zb_125 (rfl) rfl fun b3 => ⟨.inr fun _ h => h.pk [3], ?_⟩)
            refine GD.step (i := 12) (by kernel_rfl) rfl (ot_storeA (k := 1) rfl rfl rfl rfl (by exact sz_125) (by ((simp only [ws32_len, ws8_len, Sh.extTo_len, Sh.iwTo_len, Sh.lwTo_len, Sh.sched_len, Sh.K64_len, Sh.addTo_len, Sh.compress_len, h8, Sh.rounds_len _ _ h8, List.length_replicate, List.length_set]; first | done | decide | omega))) (by (decide)) (by exact ws32_one _) ⟨.inr fun _ h => h.pk [3], ?_⟩)
            refine GD.step (i := 13) (by kernel_rfl) rfl (ot_storeA (k := 0) rfl rfl rfl rfl (by exact sz_125) (by (decide)) (by (decide)) (by exact ws32_one _) ⟨.inr fun _ h => h.pk [3], ?_⟩)
            refine GD.step (i := 14) (by kernel_rfl) rfl (ot_storeA (k := 2) rfl rfl rfl rfl (by exact sz_120) (by ((simp only [ws32_len, ws8_len, Sh.extTo_len, Sh.iwTo_len, Sh.lwTo_len, Sh.sched_len, Sh.K64_len, Sh.addTo_len, Sh.compress_len, h8, Sh.rounds_len _ _ h8, List.length_replicate, List.length_set]; first | done | decide | omega))) (by (decide)) (by exact ws32_one _) ⟨.inr fun _ h => h.pk [3], ?_⟩)
            refine GD.done (by kernel_rfl) ?_
            exact GX.cutq (b2, b3, b4) trivial (by repeat (first | exact Sub.nil | refine Sub.cons rfl ?_)) (fun w9 h => by
                have h := h.sel [3, 2, 0, 1] rfl rfl
                exact h)
          · refine ot_alloc (zs := ws32 (List.replicate 64 0)) zb_125 (rfl) rfl fun b3 => ⟨.inr fun _ h => h.pk [3], ?_⟩
            refine GD.step (i := 4) (by kernel_rfl) rfl (ot_call hb_93 rfl (callOk fun w hh => factors_c w) rfl fun _ _ => ⟨.inr fun _ h => h.pk [3], ?_⟩)
            refine GD.step (i := 12) (by kernel_rfl) rfl (ot_storeA (k := 1) rfl rfl rfl rfl (by exact sz_125) (by ((simp only [ws32_len, ws8_len, Sh.extTo_len, Sh.iwTo_len, Sh.lwTo_len, Sh.sched_len, Sh.K64_len, Sh.addTo_len, Sh.compress_len, h8, Sh.rounds_len _ _ h8, List.length_replicate, List.length_set]; first | done | decide | omega))) (by (decide)) (by exact ws32_one _) ⟨.inr fun _ h => h.pk [3], ?_⟩)
            refine GD.step (i := 13) (by kernel_rfl) rfl (ot_storeA (k := 0) rfl rfl rfl rfl (by exact sz_125) (by (decide)) (by (decide)) (by exact ws32_one _) ⟨.inr fun _ h => h.pk [3], ?_⟩)
            refine GD.step (i := 14) (by kernel_rfl) rfl (ot_storeA (k := 2) rfl rfl rfl rfl (by exact sz_120) (by ((simp only [ws32_len, ws8_len, Sh.extTo_len, Sh.iwTo_len, Sh.lwTo_len, Sh.sched_len, Sh.K64_len, Sh.addTo_len, Sh.compress_len, h8, Sh.rounds_len _ _ h8, List.length_replicate, List.length_set]; first | done | decide | omega))) (by (decide)) (by exact ws32_one _) ⟨.inr fun _ h => h.pk [3], ?_⟩)
            refine GD.done (by kernel_rfl) ?_
            exact GX.cutq (b2, b3, b4) trivial (by repeat (first | exact Sub.nil | refine Sub.cons rfl ?_)) (fun w9 h => by
                have h := h.sel [3, 2, 0, 1] rfl rfl
                exact h)
        · refine ot_alloc (zs := ws32 (List.replicate 64 0)) zb_125 (rfl) rfl fun b3 => ⟨.inr fun _ h => h.pk [2], ?_⟩
          refine GD.eachN2 (i := 4) (j := 9) (by kernel_rfl) rfl rfl ?_ ?_
          · refine ot_call hb_93 rfl (callOk fun w hh => factors_c w) rfl fun _ _ => ⟨.inr fun _ h => h.pk [2], ?_⟩
            refine GD.step (i := 9) (by kernel_rfl) rfl (ot_alloc (zs := ws32 (List.replicate 64 0)) zb_125 (rfl) rfl fun b2 => ⟨.inr fun _ h => h.pk [3], ?_⟩)
            refine GD.step (i := 12) (by kernel_rfl) rfl (ot_storeA (k := 0) rfl rfl rfl rfl (by exact sz_125) (by ((simp only [ws32_len, ws8_len, Sh.extTo_len, Sh.iwTo_len, Sh.lwTo_len, Sh.sched_len, Sh.K64_len, Sh.addTo_len, Sh.compress_len, h8, Sh.rounds_len _ _ h8, List.length_replicate, List.length_set]; first | done | decide | omega))) (by (decide)) (by exact ws32_one _) ⟨.inr fun _ h => h.pk [3], ?_⟩)
            refine GD.step (i := 13) (by kernel_rfl) rfl (ot_storeA (k := 1) rfl rfl rfl rfl (by exact sz_125) (by (decide)) (by (decide)) (by exact ws32_one _) ⟨.inr fun _ h => h.pk [3], ?_⟩)
            refine GD.step (i := 14) (by kernel_rfl) rfl (ot_storeA (k := 2) rfl rfl rfl rfl (by exact sz_120) (by ((simp only [ws32_len, ws8_len, Sh.extTo_len, Sh.iwTo_len, Sh.lwTo_len, Sh.sched_len, Sh.K64_len, Sh.addTo_len, Sh.compress_len, h8, Sh.rounds_len _ _ h8, List.length_replicate, List.length_set]; first | done | decide | omega))) (by (decide)) (by exact ws32_one _) ⟨.inr fun _ h => h.pk [3], ?_⟩)
            refine GD.done (by kernel_rfl) ?_
            exact GX.cutq (b2, b3, b4) trivial (by repeat (first | exact Sub.nil | refine Sub.cons rfl ?_)) (fun w9 h => by
                exact h)
          · refine ot_alloc (zs := ws32 (List.replicate 64 0)) zb_125 (rfl) rfl fun b2 => ⟨.inr fun _ h => h.pk [3], ?_⟩
            refine GD.step (i := 4) (by kernel_rfl) rfl (ot_call hb_93 rfl (callOk fun w hh => factors_c w) rfl fun _ _ => ⟨.inr fun _ h => h.pk [3], ?_⟩)
            refine GD.step (i := 12) (by kernel_rfl) rfl (ot_storeA (k := 0) rfl rfl rfl rfl (by exact sz_125) (by ((simp only [ws32_len, ws8_len, Sh.extTo_len, Sh.iwTo_len, Sh.lwTo_len, Sh.sched_len, Sh.K64_len, Sh.addTo_len, Sh.compress_len, h8, Sh.rounds_len _ _ h8, List.length_replicate, List.length_set]; first | done | decide | omega))) (by (decide)) (by exact ws32_one _) ⟨.inr fun _ h => h.pk [3], ?_⟩)
            refine GD.step (i := 13) (by kernel_rfl) rfl (ot_storeA (k := 1) rfl rfl rfl rfl (by exact sz_125) (by (decide)) (by (decide)) (by exact ws32_one _) ⟨.inr fun _ h => h.pk [3], ?_⟩)
            refine GD.step (i := 14) (by kernel_rfl) rfl (ot_storeA (k := 2) rfl rfl rfl rfl (by exact sz_120) (by ((simp only [ws32_len, ws8_len, Sh.extTo_len, Sh.iwTo_len, Sh.lwTo_len, Sh.sched_len, Sh.K64_len, Sh.addTo_len, Sh.compress_len, h8, Sh.rounds_len _ _ h8, List.length_replicate, List.length_set]; first | done | decide | omega))) (by (decide)) (by exact ws32_one _) ⟨.inr fun _ h => h.pk [3], ?_⟩)
            refine GD.done (by kernel_rfl) ?_
            exact GX.cutq (b2, b3, b4) trivial (by repeat (first | exact Sub.nil | refine Sub.cons rfl ?_)) (fun w9 h => by
                exact h)
    · refine ot_alloc (zs := ws32 (List.replicate 64 0)) zb_125 (rfl) rfl fun b2 => ⟨.inr fun _ h => h.pk [1], ?_⟩
      refine GD.eachN3 (i := 3) (j := 10) (l := 11) (by kernel_rfl) rfl rfl rfl ?_ ?_ ?_
      · refine ot_call hb_92 rfl (callOk fun w hh => spread_c b 8 blk w (Hd.cells (k := 1) (us := byts blk) rfl (Sh.hc_b h8 hl) w hh) hl) rfl fun _ _ => ⟨.inr fun _ h => h.pk [1], ?_⟩
        refine GD.eachN3 (i := 4) (j := 10) (l := 11) (by kernel_rfl) rfl rfl rfl ?_ ?_ ?_
        · refine ot_call hb_93 rfl (callOk fun w hh => factors_c w) rfl fun _ _ => ⟨.inr fun _ h => h.pk [1], ?_⟩
          refine GD.eachN2 (i := 10) (j := 11) (by kernel_rfl) rfl rfl ?_ ?_
          · refine ot_alloc (zs := ws32 (List.replicate 64 0)) zb_125 (rfl) rfl fun b3 => ⟨.inr fun _ h => h.pk [2], ?_⟩
            refine GD.step (i := 11) (by kernel_rfl) rfl (ot_alloc (zs := ws32 (List.replicate 8 0)) zb_120 (rfl) rfl fun b4 => ⟨.inr fun _ h => h.pk [3], ?_⟩)
            refine GD.step (i := 12) (by kernel_rfl) rfl (ot_storeA (k := 2) rfl rfl rfl rfl (by exact sz_125) (by ((simp only [ws32_len, ws8_len, Sh.extTo_len, Sh.iwTo_len, Sh.lwTo_len, Sh.sched_len, Sh.K64_len, Sh.addTo_len, Sh.compress_len, h8, Sh.rounds_len _ _ h8, List.length_replicate, List.length_set]; first | done | decide | omega))) (by (decide)) (by exact ws32_one _) ⟨.inr fun _ h => h.pk [3], ?_⟩)
            refine GD.step (i := 13) (by kernel_rfl) rfl (ot_storeA (k := 1) rfl rfl rfl rfl (by exact sz_125) (by (decide)) (by (decide)) (by exact ws32_one _) ⟨.inr fun _ h => h.pk [3], ?_⟩)
            refine GD.step (i := 14) (by kernel_rfl) rfl (ot_storeA (k := 0) rfl rfl rfl rfl (by exact sz_120) (by ((simp only [ws32_len, ws8_len, Sh.extTo_len, Sh.iwTo_len, Sh.lwTo_len, Sh.sched_len, Sh.K64_len, Sh.addTo_len, Sh.compress_len, h8, Sh.rounds_len _ _ h8, List.length_replicate, List.length_set]; first | done | decide | omega))) (by (decide)) (by exact ws32_one _) ⟨.inr fun _ h => h.pk [3], ?_⟩)
            refine GD.done (by kernel_rfl) ?_
            exact GX.cutq (b2, b3, b4) trivial (by repeat (first | exact Sub.nil | refine Sub.cons rfl ?_)) (fun w9 h => by
                have h := h.sel [3, 0, 1, 2] rfl rfl
                exact h)
          · refine ot_alloc (zs := ws32 (List.replicate 8 0)) zb_120 (rfl) rfl fun b4 => ⟨.inr fun _ h => h.pk [2], ?_⟩
            refine GD.step (i := 10) (by kernel_rfl) rfl (ot_alloc (zs := ws32 (List.replicate 64 0)) zb_125 (rfl) rfl fun b3 => ⟨.inr fun _ h => h.pk [3], ?_⟩)
            refine GD.step (i := 12) (by kernel_rfl) rfl (ot_storeA (k := 2) rfl rfl rfl rfl (by exact sz_125) (by ((simp only [ws32_len, ws8_len, Sh.extTo_len, Sh.iwTo_len, Sh.lwTo_len, Sh.sched_len, Sh.K64_len, Sh.addTo_len, Sh.compress_len, h8, Sh.rounds_len _ _ h8, List.length_replicate, List.length_set]; first | done | decide | omega))) (by (decide)) (by exact ws32_one _) ⟨.inr fun _ h => h.pk [3], ?_⟩)
            refine GD.step (i := 13) (by kernel_rfl) rfl (ot_storeA (k := 0) rfl rfl rfl rfl (by exact sz_125) (by (decide)) (by (decide)) (by exact ws32_one _) ⟨.inr fun _ h => h.pk [3], ?_⟩)
            refine GD.step (i := 14) (by kernel_rfl) rfl (ot_storeA (k := 1) rfl rfl rfl rfl (by exact sz_120) (by ((simp only [ws32_len, ws8_len, Sh.extTo_len, Sh.iwTo_len, Sh.lwTo_len, Sh.sched_len, Sh.K64_len, Sh.addTo_len, Sh.compress_len, h8, Sh.rounds_len _ _ h8, List.length_replicate, List.length_set]; first | done | decide | omega))) (by (decide)) (by exact ws32_one _) ⟨.inr fun _ h => h.pk [3], ?_⟩)
            refine GD.done (by kernel_rfl) ?_
            exact GX.cutq (b2, b3, b4) trivial (by repeat (first | exact Sub.nil | refine Sub.cons rfl ?_)) (fun w9 h => by
                have h := h.sel [3, 1, 0, 2] rfl rfl
                exact h)
        · refine ot_alloc (zs := ws32 (List.replicate 64 0)) zb_125 (rfl) rfl fun b3 => ⟨.inr fun _ h => h.pk [2], ?_⟩
          refine GD.eachN2 (i := 4) (j := 11) (by kernel_rfl) rfl rfl ?_ ?_
          · refine ot_call hb_93 rfl (callOk fun w hh => factors_c w) rfl fun _ _ => ⟨.inr fun _ h => h.pk [2], ?_⟩
            refine GD.step (i := 11) (by kernel_rfl) rfl (ot_alloc (zs := ws32 (List.replicate 8 0)) zb_120 (rfl) rfl fun b4 => ⟨.inr fun _ h => h.pk [3], ?_⟩)
            refine GD.step (i := 12) (by kernel_rfl) rfl (ot_storeA (k := 2) rfl rfl rfl rfl (by exact sz_125) (by ((simp only [ws32_len, ws8_len, Sh.extTo_len, Sh.iwTo_len, Sh.lwTo_len, Sh.sched_len, Sh.K64_len, Sh.addTo_len, Sh.compress_len, h8, Sh.rounds_len _ _ h8, List.length_replicate, List.length_set]; first | done | decide | omega))) (by (decide)) (by exact ws32_one _) ⟨.inr fun _ h => h.pk [3], ?_⟩)
            refine GD.step (i := 13) (by kernel_rfl) rfl (ot_storeA (k := 1) rfl rfl rfl rfl (by exact sz_125) (by (decide)) (by (decide)) (by exact ws32_one _) ⟨.inr fun _ h => h.pk [3], ?_⟩)
            refine GD.step (i := 14) (by kernel_rfl) rfl (ot_storeA (k := 0) rfl rfl rfl rfl (by exact sz_120) (by ((simp only [ws32_len, ws8_len, Sh.extTo_len, Sh.iwTo_len, Sh.lwTo_len, Sh.sched_len, Sh.K64_len, Sh.addTo_len, Sh.compress_len, h8, Sh.rounds_len _ _ h8, List.length_replicate, List.length_set]; first | done | decide | omega))) (by (decide)) (by exact ws32_one _) ⟨.inr fun _ h => h.pk [3], ?_⟩)
            refine GD.done (by kernel_rfl) ?_
            exact GX.cutq (b2, b3, b4) trivial (by repeat (first | exact Sub.nil | refine Sub.cons rfl ?_)) (fun w9 h => by
                have h := h.sel [3, 0, 1, 2] rfl rfl
                exact h)
          · refine ot_alloc (zs := ws32 (List.replicate 8 0)) zb_120 (rfl) rfl fun b4 => ⟨.inr fun _ h => h.pk [3], ?_⟩
            refine GD.step (i := 4) (by kernel_rfl) rfl (ot_call hb_93 rfl (callOk fun w hh => factors_c w) rfl fun _ _ => ⟨.inr fun _ h => h.pk [3], ?_⟩)
            refine GD.step (i := 12) (by kernel_rfl) rfl (ot_storeA (k := 2) rfl rfl rfl rfl (by exact sz_125) (by ((simp only [ws32_len, ws8_len, Sh.extTo_len, Sh.iwTo_len, Sh.lwTo_len, Sh.sched_len, Sh.K64_len, Sh.addTo_len, Sh.compress_len, h8, Sh.rounds_len _ _ h8, List.length_replicate, List.length_set]; first | done | decide | omega))) (by (decide)) (by exact ws32_one _) ⟨.inr fun _ h => h.pk [3], ?_⟩)
            refine GD.step (i := 13) (by kernel_rfl) rfl (ot_storeA (k := 1) rfl rfl rfl rfl (by exact sz_125) (by (decide)) (by (decide)) (by exact ws32_one _) ⟨.inr fun _ h => h.pk [3], ?_⟩)
            refine GD.step (i := 14) (by kernel_rfl) rfl (ot_storeA (k := 0) rfl rfl rfl rfl (by exact sz_120) (by ((simp only [ws32_len, ws8_len, Sh.extTo_len, Sh.iwTo_len, Sh.lwTo_len, Sh.sched_len, Sh.K64_len, Sh.addTo_len, Sh.compress_len, h8, Sh.rounds_len _ _ h8, List.length_replicate, List.length_set]; first | done | decide | omega))) (by (decide)) (by exact ws32_one _) ⟨.inr fun _ h => h.pk [3], ?_⟩)
            refine GD.done (by kernel_rfl) ?_
            exact GX.cutq (b2, b3, b4) trivial (by repeat (first | exact Sub.nil | refine Sub.cons rfl ?_)) (fun w9 h => by
                have h := h.sel [3, 0, 1, 2] rfl rfl
                exact h)
        · refine ot_alloc (zs := ws32 (List.replicate 8 0)) zb_120 (rfl) rfl fun b4 => ⟨.inr fun _ h => h.pk [2], ?_⟩
          refine GD.eachN2 (i := 4) (j := 10) (by kernel_rfl) rfl rfl ?_ ?_
          · refine ot_call hb_93 rfl (callOk fun w hh => factors_c w) rfl fun _ _ => ⟨.inr fun _ h => h.pk [2], ?_⟩
            refine GD.step (i := 10) (by kernel_rfl) rfl (ot_alloc (zs := ws32 (List.replicate 64 0)) zb_125 (rfl) rfl fun b3 => ⟨.inr fun _ h => h.pk [3], ?_⟩)
            refine GD.step (i := 12) (by kernel_rfl) rfl (ot_storeA (k := 2) rfl rfl rfl rfl (by exact sz_125) (by ((simp only [ws32_len, ws8_len, Sh.extTo_len, Sh.iwTo_len, Sh.lwTo_len, Sh.sched_len, Sh.K64_len, Sh.addTo_len, Sh.compress_len, h8, Sh.rounds_len _ _ h8, List.length_replicate, List.length_set]; first | done | decide | omega))) (by (decide)) (by exact ws32_one _) ⟨.inr fun _ h => h.pk [3], ?_⟩)
            refine GD.step (i := 13) (by kernel_rfl) rfl (ot_storeA (k := 0) rfl rfl rfl rfl (by exact sz_125) (by (decide)) (by (decide)) (by exact ws32_one _) ⟨.inr fun _ h => h.pk [3], ?_⟩)
            refine GD.step (i := 14) (by kernel_rfl) rfl (ot_storeA (k := 1) rfl rfl rfl rfl (by exact sz_120) (by ((simp only [ws32_len, ws8_len, Sh.extTo_len, Sh.iwTo_len, Sh.lwTo_len, Sh.sched_len, Sh.K64_len, Sh.addTo_len, Sh.compress_len, h8, Sh.rounds_len _ _ h8, List.length_replicate, List.length_set]; first | done | decide | omega))) (by (decide)) (by exact ws32_one _) ⟨.inr fun _ h => h.pk [3], ?_⟩)
            refine GD.done (by kernel_rfl) ?_
            exact GX.cutq (b2, b3, b4) trivial (by repeat (first | exact Sub.nil | refine Sub.cons rfl ?_)) (fun w9 h => by
                have h := h.sel [3, 1, 0, 2] rfl rfl
                exact h)
          · refine ot_alloc (zs := ws32 (List.replicate 64 0)) zb_125 (rfl) rfl fun b3 => ⟨.inr fun _ h => h.pk [3], ?_⟩
            refine GD.step (i := 4) (by kernel_rfl) rfl (ot_call hb_93 rfl (callOk fun w hh => factors_c w) rfl fun _ _ => ⟨.inr fun _ h => h.pk [3], ?_⟩)
            refine GD.step (i := 12) (by kernel_rfl) rfl (ot_storeA (k := 2) rfl rfl rfl rfl (by exact sz_125) (by ((simp only [ws32_len, ws8_len, Sh.extTo_len, Sh.iwTo_len, Sh.lwTo_len, Sh.sched_len, Sh.K64_len, Sh.addTo_len, Sh.compress_len, h8, Sh.rounds_len _ _ h8, List.length_replicate, List.length_set]; first | done | decide | omega))) (by (decide)) (by exact ws32_one _) ⟨.inr fun _ h => h.pk [3], ?_⟩)
            refine GD.step (i := 13) (by kernel_rfl) rfl (ot_storeA (k := 0) rfl rfl rfl rfl (by exact sz_125) (by (decide)) (by (decide)) (by exact ws32_one _) ⟨.inr fun _ h => h.pk [3], ?_⟩)
            refine GD.step (i := 14) (by kernel_rfl) rfl (ot_storeA (k := 1) rfl rfl rfl rfl (by exact sz_120) (by ((simp only [ws32_len, ws8_len, Sh.extTo_len, Sh.iwTo_len, Sh.lwTo_len, Sh.sched_len, Sh.K64_len, Sh.addTo_len, Sh.compress_len, h8, Sh.rounds_len _ _ h8, List.length_replicate, List.length_set]; first | done | decide | omega))) (by (decide)) (by exact ws32_one _) ⟨.inr fun _ h => h.pk [3], ?_⟩)
            refine GD.done (by kernel_rfl) ?_
            exact GX.cutq (b2, b3, b4) trivial (by repeat (first | exact Sub.nil | refine Sub.cons rfl ?_)) (fun w9 h => by
                have h := h.sel [3, 1, 0, 2] rfl rfl
                exact h)
      · refine ot_alloc (zs := ws32 (List.replicate 64 0)) zb_125 (rfl) rfl fun b3 => ⟨.inr fun _ h => h.pk [2], ?_⟩
        refine GD.eachN2 (i := 3) (j := 11) (by kernel_rfl) rfl rfl ?_ ?_
        · refine ot_call hb_92 rfl (callOk fun w hh => spread_c b 8 blk w (Hd.cells (k := 2) (us := byts blk) rfl (Sh.hc_b h8 hl) w hh) hl) rfl fun _ _ => ⟨.inr fun _ h => h.pk [2], ?_⟩
          refine GD.eachN2 (i := 4) (j := 11) (by kernel_rfl) rfl rfl ?_ ?_
          · refine ot_call hb_93 rfl (callOk fun w hh => factors_c w) rfl fun _ _ => ⟨.inr fun _ h => h.pk [2], ?_⟩
            refine GD.step (i := 11) (by kernel_rfl) rfl (ot_alloc (zs := ws32 (List.replicate 8 0)) zb_120 (rfl) rfl fun b4 => ⟨.inr fun _ h => h.pk [3], ?_⟩)
            refine GD.step (i := 12) (by kernel_rfl) rfl (ot_storeA (k := 2) rfl rfl rfl rfl (by exact sz_125) (by ((simp only [ws32_len, ws8_len, Sh.extTo_len, Sh.iwTo_len, Sh.lwTo_len, Sh.sched_len, Sh.K64_len, Sh.addTo_len, Sh.compress_len, h8, Sh.rounds_len _ _ h8, List.length_replicate, List.length_set]; first | done | decide | omega))) (by (decide)) (by exact ws32_one _) ⟨.inr fun _ h => h.pk [3], ?_⟩)
            refine GD.step (i := 13) (by kernel_rfl) rfl (ot_storeA (k := 1) rfl rfl rfl rfl (by exact sz_125) (by (decide)) (by (decide)) (by exact ws32_one _) ⟨.inr fun _ h => h.pk [3], ?_⟩)
            refine GD.step (i := 14) (by kernel_rfl) rfl (ot_storeA (k := 0) rfl rfl rfl rfl (by exact sz_120) (by ((simp only [ws32_len, ws8_len, Sh.extTo_len, Sh.iwTo_len, Sh.lwTo_len, Sh.sched_len, Sh.K64_len, Sh.addTo_len, Sh.compress_len, h8, Sh.rounds_len _ _ h8, List.length_replicate, List.length_set]; first | done | decide | omega))) (by (decide)) (by exact ws32_one _) ⟨.inr fun _ h => h.pk [3], ?_⟩)
            refine GD.done (by kernel_rfl) ?_
            exact GX.cutq (b2, b3, b4) trivial (by repeat (first | exact Sub.nil | refine Sub.cons rfl ?_)) (fun w9 h => by
                have h := h.sel [3, 0, 1, 2] rfl rfl
                exact h)
          · refine ot_alloc (zs := ws32 (List.replicate 8 0)) zb_120 (rfl) rfl fun b4 => ⟨.inr fun _ h => h.pk [3], ?_⟩
            refine GD.step (i := 4) (by kernel_rfl) rfl (ot_call hb_93 rfl (callOk fun w hh => factors_c w) rfl fun _ _ => ⟨.inr fun _ h => h.pk [3], ?_⟩)
            refine GD.step (i := 12) (by kernel_rfl) rfl (ot_storeA (k := 2) rfl rfl rfl rfl (by exact sz_125) (by ((simp only [ws32_len, ws8_len, Sh.extTo_len, Sh.iwTo_len, Sh.lwTo_len, Sh.sched_len, Sh.K64_len, Sh.addTo_len, Sh.compress_len, h8, Sh.rounds_len _ _ h8, List.length_replicate, List.length_set]; first | done | decide | omega))) (by (decide)) (by exact ws32_one _) ⟨.inr fun _ h => h.pk [3], ?_⟩)
            refine GD.step (i := 13) (by kernel_rfl) rfl (ot_storeA (k := 1) rfl rfl rfl rfl (by exact sz_125) (by (decide)) (by (decide)) (by exact ws32_one _) ⟨.inr fun _ h => h.pk [3], ?_⟩)
            refine GD.step (i := 14) (by kernel_rfl) rfl (ot_storeA (k := 0) rfl rfl rfl rfl (by exact sz_120) (by ((simp only [ws32_len, ws8_len, Sh.extTo_len, Sh.iwTo_len, Sh.lwTo_len, Sh.sched_len, Sh.K64_len, Sh.addTo_len, Sh.compress_len, h8, Sh.rounds_len _ _ h8, List.length_replicate, List.length_set]; first | done | decide | omega))) (by (decide)) (by exact ws32_one _) ⟨.inr fun _ h => h.pk [3], ?_⟩)
            refine GD.done (by kernel_rfl) ?_
            exact GX.cutq (b2, b3, b4) trivial (by repeat (first | exact Sub.nil | refine Sub.cons rfl ?_)) (fun w9 h => by
                have h := h.sel [3, 0, 1, 2] rfl rfl
                exact h)
        · refine ot_alloc (zs := ws32 (List.replicate 8 0)) zb_120 (rfl) rfl fun b4 => ⟨.inr fun _ h => h.pk [3], ?_⟩
          refine GD.step (i := 3) (by kernel_rfl) rfl (ot_call hb_92 rfl (callOk fun w hh => spread_c b 8 blk w (Hd.cells (k := 3) (us := byts blk) rfl (Sh.hc_b h8 hl) w hh) hl) rfl fun _ _ => ⟨.inr fun _ h => h.pk [3], ?_⟩)
          refine GD.step (i := 4) (by kernel_rfl) rfl (ot_call hb_93 rfl (callOk fun w hh => factors_c w) rfl fun _ _ => ⟨.inr fun _ h => h.pk [3], ?_⟩)
          refine GD.step (i := 12) (by kernel_rfl) rfl (ot_storeA (k := 2) rfl rfl rfl rfl (by exact sz_125) (by ((simp only [ws32_len, ws8_len, Sh.extTo_len, Sh.iwTo_len, Sh.lwTo_len, Sh.sched_len, Sh.K64_len, Sh.addTo_len, Sh.compress_len, h8, Sh.rounds_len _ _ h8, List.length_replicate, List.length_set]; first | done | decide | omega))) (by (decide)) (by exact ws32_one _) ⟨.inr fun _ h => h.pk [3], ?_⟩)
          refine GD.step (i := 13) (by kernel_rfl) rfl (ot_storeA (k := 1) rfl rfl rfl rfl (by exact sz_125) (by (decide)) (by (decide)) (by exact ws32_one _) ⟨.inr fun _ h => h.pk [3], ?_⟩)
          refine GD.step (i := 14) (by kernel_rfl) rfl (ot_storeA (k := 0) rfl rfl rfl rfl (by exact sz_120) (by ((simp only [ws32_len, ws8_len, Sh.extTo_len, Sh.iwTo_len, Sh.lwTo_len, Sh.sched_len, Sh.K64_len, Sh.addTo_len, Sh.compress_len, h8, Sh.rounds_len _ _ h8, List.length_replicate, List.length_set]; first | done | decide | omega))) (by (decide)) (by exact ws32_one _) ⟨.inr fun _ h => h.pk [3], ?_⟩)
          refine GD.done (by kernel_rfl) ?_
          exact GX.cutq (b2, b3, b4) trivial (by repeat (first | exact Sub.nil | refine Sub.cons rfl ?_)) (fun w9 h => by
              have h := h.sel [3, 0, 1, 2] rfl rfl
              exact h)
      · refine ot_alloc (zs := ws32 (List.replicate 8 0)) zb_120 (rfl) rfl fun b4 => ⟨.inr fun _ h => h.pk [2], ?_⟩
        refine GD.eachN2 (i := 3) (j := 10) (by kernel_rfl) rfl rfl ?_ ?_
        · refine ot_call hb_92 rfl (callOk fun w hh => spread_c b 8 blk w (Hd.cells (k := 2) (us := byts blk) rfl (Sh.hc_b h8 hl) w hh) hl) rfl fun _ _ => ⟨.inr fun _ h => h.pk [2], ?_⟩
          refine GD.eachN2 (i := 4) (j := 10) (by kernel_rfl) rfl rfl ?_ ?_
          · refine ot_call hb_93 rfl (callOk fun w hh => factors_c w) rfl fun _ _ => ⟨.inr fun _ h => h.pk [2], ?_⟩
            refine GD.step (i := 10) (by kernel_rfl) rfl (ot_alloc (zs := ws32 (List.replicate 64 0)) zb_125 (rfl) rfl fun b3 => ⟨.inr fun _ h => h.pk [3], ?_⟩)
            refine GD.step (i := 12) (by kernel_rfl) rfl (ot_storeA (k := 2) rfl rfl rfl rfl (by exact sz_125) (by ((simp only [ws32_len, ws8_len, Sh.extTo_len, Sh.iwTo_len, Sh.lwTo_len, Sh.sched_len, Sh.K64_len, Sh.addTo_len, Sh.compress_len, h8, Sh.rounds_len _ _ h8, List.length_replicate, List.length_set]; first | done | decide | omega))) (by (decide)) (by exact ws32_one _) ⟨.inr fun _ h => h.pk [3], ?_⟩)
            refine GD.step (i := 13) (by kernel_rfl) rfl (ot_storeA (k := 0) rfl rfl rfl rfl (by exact sz_125) (by (decide)) (by (decide)) (by exact ws32_one _) ⟨.inr fun _ h => h.pk [3], ?_⟩)
            refine GD.step (i := 14) (by kernel_rfl) rfl (ot_storeA (k := 1) rfl rfl rfl rfl (by exact sz_120) (by ((simp only [ws32_len, ws8_len, Sh.extTo_len, Sh.iwTo_len, Sh.lwTo_len, Sh.sched_len, Sh.K64_len, Sh.addTo_len, Sh.compress_len, h8, Sh.rounds_len _ _ h8, List.length_replicate, List.length_set]; first | done | decide | omega))) (by (decide)) (by exact ws32_one _) ⟨.inr fun _ h => h.pk [3], ?_⟩)
            refine GD.done (by kernel_rfl) ?_
            exact GX.cutq (b2, b3, b4) trivial (by repeat (first | exact Sub.nil | refine Sub.cons rfl ?_)) (fun w9 h => by
                have h := h.sel [3, 1, 0, 2] rfl rfl
                exact h)
          · refine ot_alloc (zs := ws32 (List.replicate 64 0)) zb_125 (rfl) rfl fun b3 => ⟨.inr fun _ h => h.pk [3], ?_⟩
            refine GD.step (i := 4) (by kernel_rfl) rfl (ot_call hb_93 rfl (callOk fun w hh => factors_c w) rfl fun _ _ => ⟨.inr fun _ h => h.pk [3], ?_⟩)
            refine GD.step (i := 12) (by kernel_rfl) rfl (ot_storeA (k := 2) rfl rfl rfl rfl (by exact sz_125) (by ((simp only [ws32_len, ws8_len, Sh.extTo_len, Sh.iwTo_len, Sh.lwTo_len, Sh.sched_len, Sh.K64_len, Sh.addTo_len, Sh.compress_len, h8, Sh.rounds_len _ _ h8, List.length_replicate, List.length_set]; first | done | decide | omega))) (by (decide)) (by exact ws32_one _) ⟨.inr fun _ h => h.pk [3], ?_⟩)
            refine GD.step (i := 13) (by kernel_rfl) rfl (ot_storeA (k := 0) rfl rfl rfl rfl (by exact sz_125) (by (decide)) (by (decide)) (by exact ws32_one _) ⟨.inr fun _ h => h.pk [3], ?_⟩)
            refine GD.step (i := 14) (by kernel_rfl) rfl (ot_storeA (k := 1) rfl rfl rfl rfl (by exact sz_120) (by ((simp only [ws32_len, ws8_len, Sh.extTo_len, Sh.iwTo_len, Sh.lwTo_len, Sh.sched_len, Sh.K64_len, Sh.addTo_len, Sh.compress_len, h8, Sh.rounds_len _ _ h8, List.length_replicate, List.length_set]; first | done | decide | omega))) (by (decide)) (by exact ws32_one _) ⟨.inr fun _ h => h.pk [3], ?_⟩)
            refine GD.done (by kernel_rfl) ?_
            exact GX.cutq (b2, b3, b4) trivial (by repeat (first | exact Sub.nil | refine Sub.cons rfl ?_)) (fun w9 h => by
                have h := h.sel [3, 1, 0, 2] rfl rfl
                exact h)
        · refine ot_alloc (zs := ws32 (List.replicate 64 0)) zb_125 (rfl) rfl fun b3 => ⟨.inr fun _ h => h.pk [3], ?_⟩
          refine GD.step (i := 3) (by kernel_rfl) rfl (ot_call hb_92 rfl (callOk fun w hh => spread_c b 8 blk w (Hd.cells (k := 3) (us := byts blk) rfl (Sh.hc_b h8 hl) w hh) hl) rfl fun _ _ => ⟨.inr fun _ h => h.pk [3], ?_⟩)
          refine GD.step (i := 4) (by kernel_rfl) rfl (ot_call hb_93 rfl (callOk fun w hh => factors_c w) rfl fun _ _ => ⟨.inr fun _ h => h.pk [3], ?_⟩)
          refine GD.step (i := 12) (by kernel_rfl) rfl (ot_storeA (k := 2) rfl rfl rfl rfl (by exact sz_125) (by ((simp only [ws32_len, ws8_len, Sh.extTo_len, Sh.iwTo_len, Sh.lwTo_len, Sh.sched_len, Sh.K64_len, Sh.addTo_len, Sh.compress_len, h8, Sh.rounds_len _ _ h8, List.length_replicate, List.length_set]; first | done | decide | omega))) (by (decide)) (by exact ws32_one _) ⟨.inr fun _ h => h.pk [3], ?_⟩)
          refine GD.step (i := 13) (by kernel_rfl) rfl (ot_storeA (k := 0) rfl rfl rfl rfl (by exact sz_125) (by (decide)) (by (decide)) (by exact ws32_one _) ⟨.inr fun _ h => h.pk [3], ?_⟩)
          refine GD.step (i := 14) (by kernel_rfl) rfl (ot_storeA (k := 1) rfl rfl rfl rfl (by exact sz_120) (by ((simp only [ws32_len, ws8_len, Sh.extTo_len, Sh.iwTo_len, Sh.lwTo_len, Sh.sched_len, Sh.K64_len, Sh.addTo_len, Sh.compress_len, h8, Sh.rounds_len _ _ h8, List.length_replicate, List.length_set]; first | done | decide | omega))) (by (decide)) (by exact ws32_one _) ⟨.inr fun _ h => h.pk [3], ?_⟩)
          refine GD.done (by kernel_rfl) ?_
          exact GX.cutq (b2, b3, b4) trivial (by repeat (first | exact Sub.nil | refine Sub.cons rfl ?_)) (fun w9 h => by
              have h := h.sel [3, 1, 0, 2] rfl rfl
              exact h)
    · refine ot_alloc (zs := ws32 (List.replicate 64 0)) zb_125 (rfl) rfl fun b3 => ⟨.inr fun _ h => h.pk [1], ?_⟩
      refine GD.eachN3 (i := 3) (j := 9) (l := 11) (by kernel_rfl) rfl rfl rfl ?_ ?_ ?_
      · refine ot_call hb_92 rfl (callOk fun w hh => spread_c b 8 blk w (Hd.cells (k := 1) (us := byts blk) rfl (Sh.hc_b h8 hl) w hh) hl) rfl fun _ _ => ⟨.inr fun _ h => h.pk [1], ?_⟩
        refine GD.eachN3 (i := 4) (j := 9) (l := 11) (by kernel_rfl) rfl rfl rfl ?_ ?_ ?_
        · refine ot_call hb_93 rfl (callOk fun w hh => factors_c w) rfl fun _ _ => ⟨.inr fun _ h => h.pk [1], ?_⟩
          refine GD.eachN2 (i := 9) (j := 11) (by kernel_rfl) rfl rfl ?_ ?_
          · refine ot_alloc (zs := ws32 (List.replicate 64 0)) zb_125 (rfl) rfl fun b2 => ⟨.inr fun _ h => h.pk [2], ?_⟩
            refine GD.step (i := 11) (by kernel_rfl) rfl (ot_alloc (zs := ws32 (List.replicate 8 0)) zb_120 (rfl) rfl fun b4 => ⟨.inr fun _ h => h.pk [3], ?_⟩)
            refine GD.step (i := 12) (by kernel_rfl) rfl (ot_storeA (k := 1) rfl rfl rfl rfl (by exact sz_125) (by ((simp only [ws32_len, ws8_len, Sh.extTo_len, Sh.iwTo_len, Sh.lwTo_len, Sh.sched_len, Sh.K64_len, Sh.addTo_len, Sh.compress_len, h8, Sh.rounds_len _ _ h8, List.length_replicate, List.length_set]; first | done | decide | omega))) (by (decide)) (by exact ws32_one _) ⟨.inr fun _ h => h.pk [3], ?_⟩)
            refine GD.step (i := 13) (by kernel_rfl) rfl (ot_storeA (k := 2) rfl rfl rfl rfl (by exact sz_125) (by (decide)) (by (decide)) (by exact ws32_one _) ⟨.inr fun _ h => h.pk [3], ?_⟩)
            refine GD.step (i := 14) (by kernel_rfl) rfl (ot_storeA (k := 0) rfl rfl rfl rfl (by exact sz_120) (by ((simp only [ws32_len, ws8_len, Sh.extTo_len, Sh.iwTo_len, Sh.lwTo_len, Sh.sched_len, Sh.K64_len, Sh.addTo_len, Sh.compress_len, h8, Sh.rounds_len _ _ h8, List.length_replicate, List.length_set]; first | done | decide | omega))) (by (decide)) (by exact ws32_one _) ⟨.inr fun _ h => h.pk [3], ?_⟩)
            refine GD.done (by kernel_rfl) ?_
            exact GX.cutq (b2, b3, b4) trivial (by repeat (first | exact Sub.nil | refine Sub.cons rfl ?_)) (fun w9 h => by
                have h := h.sel [3, 0, 2, 1] rfl rfl
                exact h)
          · refine ot_alloc (zs := ws32 (List.replicate 8 0)) zb_120 (rfl) rfl fun b4 => ⟨.inr fun _ h => h.pk [2], ?_⟩
            refine GD.step (i := 9) (by kernel_rfl) rfl (ot_alloc (zs := ws32 (List.replicate 64 0)) zb_125 (rfl) rfl fun b2 => ⟨.inr fun _ h => h.pk [3], ?_⟩)
            refine GD.step (i := 12) (by kernel_rfl) rfl (ot_storeA (k := 0) rfl rfl rfl rfl (by exact sz_125) (by ((simp only [ws32_len, ws8_len, Sh.extTo_len, Sh.iwTo_len, Sh.lwTo_len, Sh.sched_len, Sh.K64_len, Sh.addTo_len, Sh.compress_len, h8, Sh.rounds_len _ _ h8, List.length_replicate, List.length_set]; first | done | decide | omega))) (by (decide)) (by exact ws32_one _) ⟨.inr fun _ h => h.pk [3], ?_⟩)
            refine GD.step (i := 13) (by kernel_rfl) rfl (ot_storeA (k := 2) rfl rfl rfl rfl (by exact sz_125) (by (decide)) (by (decide)) (by exact ws32_one _) ⟨.inr fun _ h => h.pk [3], ?_⟩)
            refine GD.step (i := 14) (by kernel_rfl) rfl (ot_storeA (k := 1) rfl rfl rfl rfl (by exact sz_120) (by ((simp only [ws32_len, ws8_len, Sh.extTo_len, Sh.iwTo_len, Sh.lwTo_len, Sh.sched_len, Sh.K64_len, Sh.addTo_len, Sh.compress_len, h8, Sh.rounds_len _ _ h8, List.length_replicate, List.length_set]; first | done | decide | omega))) (by (decide)) (by exact ws32_one _) ⟨.inr fun _ h => h.pk [3], ?_⟩)
            refine GD.done (by kernel_rfl) ?_
            exact GX.cutq (b2, b3, b4) trivial (by repeat (first | exact Sub.nil | refine Sub.cons rfl ?_)) (fun w9 h => by
                have h := h.sel [3, 1, 2, 0] rfl rfl
                exact h)
        · refine ot_alloc (zs := ws32 (List.replicate 64 0)) zb_125 (rfl) rfl fun b2 => ⟨.inr fun _ h => h.pk [2], ?_⟩
          refine GD.eachN2 (i := 4) (j := 11) (by kernel_rfl) rfl rfl ?_ ?_
          · refine ot_call hb_93 rfl (callOk fun w hh => factors_c w) rfl fun _ _ => ⟨.inr fun _ h => h.pk [2], ?_⟩
            refine GD.step (i := 11) (by kernel_rfl) rfl (ot_alloc (zs := ws32 (List.replicate 8 0)) zb_120 (rfl) rfl fun b4 => ⟨.inr fun _ h => h.pk [3], ?_⟩)
            refine GD.step (i := 12) (by kernel_rfl) rfl (ot_storeA (k := 1) rfl rfl rfl rfl (by exact sz_125) (by ((simp only [ws32_len, ws8_len, Sh.extTo_len, Sh.iwTo_len, Sh.lwTo_len, Sh.sched_len, Sh.K64_len, Sh.addTo_len, Sh.compress_len, h8, Sh.rounds_len _ _ h8, List.length_replicate, List.length_set]; first | done | decide | omega))) (by (decide)) (by exact ws32_one _) ⟨.inr fun _ h => h.pk [3], ?_⟩)
            refine GD.step (i := 13) (by kernel_rfl) rfl (ot_storeA (k := 2) rfl rfl rfl rfl (by exact sz_125) (by (decide)) (by (decide)) (by exact ws32_one _) ⟨.inr fun _ h => h.pk [3], ?_⟩)
            refine GD.step (i := 14) (by kernel_rfl) rfl (ot_storeA (k := 0) rfl rfl rfl rfl (by exact sz_120) (by ((simp only [ws32_len, ws8_len, Sh.extTo_len, Sh.iwTo_len, Sh.lwTo_len, Sh.sched_len, Sh.K64_len, Sh.addTo_len, Sh.compress_len, h8, Sh.rounds_len _ _ h8, List.length_replicate, List.length_set]; first | done | decide | omega))) (by (decide)) (by exact ws32_one _) ⟨.inr fun _ h => h.pk [3], ?_⟩)
            refine GD.done (by kernel_rfl) ?_
            exact GX.cutq (b2, b3, b4) trivial (by repeat (first | exact Sub.nil | refine Sub.cons rfl ?_)) (fun w9 h => by
                have h := h.sel [3, 0, 2, 1] rfl rfl
                exact h)
          · refine ot_alloc (zs := ws32 (List.replicate 8 0)) zb_120 (rfl) rfl fun b4 => ⟨.inr fun _ h => h.pk [3], ?_⟩
            refine GD.step (i := 4) (by kernel_rfl) rfl (ot_call hb_93 rfl (callOk fun w hh => factors_c w) rfl fun _ _ => ⟨.inr fun _ h => h.pk [3], ?_⟩)
            refine GD.step (i := 12) (by kernel_rfl) rfl (ot_storeA (k := 1) rfl rfl rfl rfl (by exact sz_125) (by ((simp only [ws32_len, ws8_len, Sh.extTo_len, Sh.iwTo_len, Sh.lwTo_len, Sh.sched_len, Sh.K64_len, Sh.addTo_len, Sh.compress_len, h8, Sh.rounds_len _ _ h8, List.length_replicate, List.length_set]; first | done | decide | omega))) (by (decide)) (by exact ws32_one _) ⟨.inr fun _ h => h.pk [3], ?_⟩)
            refine GD.step (i := 13) (by kernel_rfl) rfl (ot_storeA (k := 2) rfl rfl rfl rfl (by exact sz_125) (by (decide)) (by (decide)) (by exact ws32_one _) ⟨.inr fun _ h => h.pk [3], ?_⟩)
            refine GD.step (i := 14) (by kernel_rfl) rfl (ot_storeA (k := 0) rfl rfl rfl rfl (by exact sz_120) (by ((simp only [ws32_len, ws8_len, Sh.extTo_len, Sh.iwTo_len, Sh.lwTo_len, Sh.sched_len, Sh.K64_len, Sh.addTo_len, Sh.compress_len, h8, Sh.rounds_len _ _ h8, List.length_replicate, List.length_set]; first | done | decide | omega))) (by (decide)) (by exact ws32_one _) ⟨.inr fun _ h => h.pk [3], ?_⟩)
            refine GD.done (by kernel_rfl) ?_
            exact GX.cutq (b2, b3, b4) trivial (by repeat (first | exact Sub.nil | refine Sub.cons rfl ?_)) (fun w9 h => by
                have h := h.sel [3, 0, 2, 1] rfl rfl
                exact h)
        · refine ot_alloc (zs := ws32 (List.replicate 8 0)) zb_120 (rfl) rfl fun b4 => ⟨.inr fun _ h => h.pk [2], ?_⟩
          refine GD.eachN2 (i := 4) (j := 9) (by kernel_rfl) rfl rfl ?_ ?_
          · refine ot_call hb_93 rfl (callOk fun w hh => factors_c w) rfl fun _ _ => ⟨.inr fun _ h => h.pk [2], ?_⟩
            refine GD.step (i := 9) (by kernel_rfl) rfl (ot_alloc (zs := ws32 (List.replicate 64 0)) zb_125 (rfl) rfl fun b2 => ⟨.inr fun _ h => h.pk [3], ?_⟩)
            refine GD.step (i := 12) (by kernel_rfl) rfl (ot_storeA (k := 0) rfl rfl rfl rfl (by exact sz_125) (by ((simp only [ws32_len, ws8_len, Sh.extTo_len, Sh.iwTo_len, Sh.lwTo_len, Sh.sched_len, Sh.K64_len, Sh.addTo_len, Sh.compress_len, h8, Sh.rounds_len _ _ h8, List.length_replicate, List.length_set]; first | done | decide | omega))) (by (decide)) (by exact ws32_one _) ⟨.inr fun _ h => h.pk [3], ?_⟩)
            refine GD.step (i := 13) (by kernel_rfl) rfl (ot_storeA (k := 2) rfl rfl rfl rfl (by exact sz_125) (by (decide)) (by (decide)) (by exact ws32_one _) ⟨.inr fun _ h => h.pk [3], ?_⟩)
            refine GD.step (i := 14) (by kernel_rfl) rfl (ot_storeA (k := 1) rfl rfl rfl rfl (by exact sz_120) (by ((simp only [ws32_len, ws8_len, Sh.extTo_len, Sh.iwTo_len, Sh.lwTo_len, Sh.sched_len, Sh.K64_len, Sh.addTo_len, Sh.compress_len, h8, Sh.rounds_len _ _ h8, List.length_replicate, List.length_set]; first | done | decide | omega))) (by (decide)) (by exact ws32_one _) ⟨.inr fun _ h => h.pk [3], ?_⟩)
            refine GD.done (by kernel_rfl) ?_
            exact GX.cutq (b2, b3, b4) trivial (by repeat (first | exact Sub.nil | refine Sub.cons rfl ?_)) (fun w9 h => by
                have h := h.sel [3, 1, 2, 0] rfl rfl
                exact h)
          · refine ot_alloc (zs := ws32 (List.replicate 64 0)) zb_125 (rfl) rfl fun b2 => ⟨.inr fun _ h => h.pk [3], ?_⟩
            refine GD.step (i := 4) (by kernel_rfl) rfl (ot_call hb_93 rfl (callOk fun w hh => factors_c w) rfl fun _ _ => ⟨.inr fun _ h => h.pk [3], ?_⟩)
            refine GD.step (i := 12) (by kernel_rfl) rfl (ot_storeA (k := 0) rfl rfl rfl rfl (by exact sz_125) (by ((simp only [ws32_len, ws8_len, Sh.extTo_len, Sh.iwTo_len, Sh.lwTo_len, Sh.sched_len, Sh.K64_len, Sh.addTo_len, Sh.compress_len, h8, Sh.rounds_len _ _ h8, List.length_replicate, List.length_set]; first | done | decide | omega))) (by (decide)) (by exact ws32_one _) ⟨.inr fun _ h => h.pk [3], ?_⟩)
            refine GD.step (i := 13) (by kernel_rfl) rfl (ot_storeA (k := 2) rfl rfl rfl rfl (by exact sz_125) (by (decide)) (by (decide)) (by exact ws32_one _) ⟨.inr fun _ h => h.pk [3], ?_⟩)
            refine GD.step (i := 14) (by kernel_rfl) rfl (ot_storeA (k := 1) rfl rfl rfl rfl (by exact sz_120) (by ((simp only [ws32_len, ws8_len, Sh.extTo_len, Sh.iwTo_len, Sh.lwTo_len, Sh.sched_len, Sh.K64_len, Sh.addTo_len, Sh.compress_len, h8, Sh.rounds_len _ _ h8, List.length_replicate, List.length_set]; first | done | decide | omega))) (by (decide)) (by exact ws32_one _) ⟨.inr fun _ h => h.pk [3], ?_⟩)
            refine GD.done (by kernel_rfl) ?_
            exact GX.cutq (b2, b3, b4) trivial (by repeat (first | exact Sub.nil | refine Sub.cons rfl ?_)) (fun w9 h => by
                have h := h.sel [3, 1, 2, 0] rfl rfl
                exact h)
      · refine ot_alloc (zs := ws32 (List.replicate 64 0)) zb_125 (rfl) rfl fun b2 => ⟨.inr fun _ h => h.pk [2], ?_⟩
        refine GD.eachN2 (i := 3) (j := 11) (by kernel_rfl) rfl rfl ?_ ?_
        · refine ot_call hb_92 rfl (callOk fun w hh => spread_c b 8 blk w (Hd.cells (k := 2) (us := byts blk) rfl (Sh.hc_b h8 hl) w hh) hl) rfl fun _ _ => ⟨.inr fun _ h => h.pk [2], ?_⟩
          refine GD.eachN2 (i := 4) (j := 11) (by kernel_rfl) rfl rfl ?_ ?_
          · refine ot_call hb_93 rfl (callOk fun w hh => factors_c w) rfl fun _ _ => ⟨.inr fun _ h => h.pk [2], ?_⟩
            refine GD.step (i := 11) (by kernel_rfl) rfl (ot_alloc (zs := ws32 (List.replicate 8 0)) zb_120 (rfl) rfl fun b4 => ⟨.inr fun _ h => h.pk [3], ?_⟩)
            refine GD.step (i := 12) (by kernel_rfl) rfl (ot_storeA (k := 1) rfl rfl rfl rfl (by exact sz_125) (by ((simp only [ws32_len, ws8_len, Sh.extTo_len, Sh.iwTo_len, Sh.lwTo_len, Sh.sched_len, Sh.K64_len, Sh.addTo_len, Sh.compress_len, h8, Sh.rounds_len _ _ h8, List.length_replicate, List.length_set]; first | done | decide | omega))) (by (decide)) (by exact ws32_one _) ⟨.inr fun _ h => h.pk [3], ?_⟩)
            refine GD.step (i := 13) (by kernel_rfl) rfl (ot_storeA (k := 2) rfl rfl rfl rfl (by exact sz_125) (by (decide)) (by (decide)) (by exact ws32_one _) ⟨.inr fun _ h => h.pk [3], ?_⟩)
            refine GD.step (i := 14) (by kernel_rfl) rfl (ot_storeA (k := 0) rfl rfl rfl rfl (by exact sz_120) (by ((simp only [ws32_len, ws8_len, Sh.extTo_len, Sh.iwTo_len, Sh.lwTo_len, Sh.sched_len, Sh.K64_len, Sh.addTo_len, Sh.compress_len, h8, Sh.rounds_len _ _ h8, List.length_replicate, List.length_set]; first | done | decide | omega))) (by (decide)) (by exact ws32_one _) ⟨.inr fun _ h => h.pk [3], ?_⟩)
            refine GD.done (by kernel_rfl) ?_
            exact GX.cutq (b2, b3, b4) trivial (by repeat (first | exact Sub.nil | refine Sub.cons rfl ?_)) (fun w9 h => by
                have h := h.sel [3, 0, 2, 1] rfl rfl
                exact h)
          · refine ot_alloc (zs := ws32 (List.replicate 8 0)) zb_120 (rfl) rfl fun b4 => ⟨.inr fun _ h => h.pk [3], ?_⟩
            refine GD.step (i := 4) (by kernel_rfl) rfl (ot_call hb_93 rfl (callOk fun w hh => factors_c w) rfl fun _ _ => ⟨.inr fun _ h => h.pk [3], ?_⟩)
            refine GD.step (i := 12) (by kernel_rfl) rfl (ot_storeA (k := 1) rfl rfl rfl rfl (by exact sz_125) (by ((simp only [ws32_len, ws8_len, Sh.extTo_len, Sh.iwTo_len, Sh.lwTo_len, Sh.sched_len, Sh.K64_len, Sh.addTo_len, Sh.compress_len, h8, Sh.rounds_len _ _ h8, List.length_replicate, List.length_set]; first | done | decide | omega))) (by (decide)) (by exact ws32_one _) ⟨.inr fun _ h => h.pk [3], ?_⟩)
            refine GD.step (i := 13) (by kernel_rfl) rfl (ot_storeA (k := 2) rfl rfl rfl rfl (by exact sz_125) (by (decide)) (by (decide)) (by exact ws32_one _) ⟨.inr fun _ h => h.pk [3], ?_⟩)
            refine GD.step (i := 14) (by kernel_rfl) rfl (ot_storeA (k := 0) rfl rfl rfl rfl (by exact sz_120) (by ((simp only [ws32_len, ws8_len, Sh.extTo_len, Sh.iwTo_len, Sh.lwTo_len, Sh.sched_len, Sh.K64_len, Sh.addTo_len, Sh.compress_len, h8, Sh.rounds_len _ _ h8, List.length_replicate, List.length_set]; first | done | decide | omega))) (by (decide)) (by exact ws32_one _) ⟨.inr fun _ h => h.pk [3], ?_⟩)
            refine GD.done (by kernel_rfl) ?_
            exact GX.cutq (b2, b3, b4) trivial (by repeat (first | exact Sub.nil | refine Sub.cons rfl ?_)) (fun w9 h => by
                have h := h.sel [3, 0, 2, 1] rfl rfl
                exact h)
        · refine ot_alloc (zs := ws32 (List.replicate 8 0)) zb_120 (rfl) rfl fun b4 => ⟨.inr fun _ h => h.pk [3], ?_⟩
          refine GD.step (i := 3) (by kernel_rfl) rfl (ot_call hb_92 rfl (callOk fun w hh => spread_c b 8 blk w (Hd.cells (k := 3) (us := byts blk) rfl (Sh.hc_b h8 hl) w hh) hl) rfl fun _ _ => ⟨.inr fun _ h => h.pk [3], ?_⟩)
          refine GD.step (i := 4) (by kernel_rfl) rfl (ot_call hb_93 rfl (callOk fun w hh => factors_c w) rfl fun _ _ => ⟨.inr fun _ h => h.pk [3], ?_⟩)
          refine GD.step (i := 12) (by kernel_rfl) rfl (ot_storeA (k := 1) rfl rfl rfl rfl (by exact sz_125) (by ((simp only [ws32_len, ws8_len, Sh.extTo_len, Sh.iwTo_len, Sh.lwTo_len, Sh.sched_len, Sh.K64_len, Sh.addTo_len, Sh.compress_len, h8, Sh.rounds_len _ _ h8, List.length_replicate, List.length_set]; first | done | decide | omega))) (by (decide)) (by exact ws32_one _) ⟨.inr fun _ h => h.pk [3], ?_⟩)
          refine GD.step (i := 13) (by kernel_rfl) rfl (ot_storeA (k := 2) rfl rfl rfl rfl (by exact sz_125) (by (decide)) (by (decide)) (by exact ws32_one _) ⟨.inr fun _ h => h.pk [3], ?_⟩)
          refine GD.step (i := 14) (by kernel_rfl) rfl (ot_storeA (k := 0) rfl rfl rfl rfl (by exact sz_120) (by ((simp only [ws32_len, ws8_len, Sh.extTo_len, Sh.iwTo_len, Sh.lwTo_len, Sh.sched_len, Sh.K64_len, Sh.addTo_len, Sh.compress_len, h8, Sh.rounds_len _ _ h8, List.length_replicate, List.length_set]; first | done | decide | omega))) (by (decide)) (by exact ws32_one _) ⟨.inr fun _ h => h.pk [3], ?_⟩)
          refine GD.done (by kernel_rfl) ?_
          exact GX.cutq (b2, b3, b4) trivial (by repeat (first | exact Sub.nil | refine Sub.cons rfl ?_)) (fun w9 h => by
              have h := h.sel [3, 0, 2, 1] rfl rfl
              exact h)
      · refine ot_alloc (zs := ws32 (List.replicate 8 0)) zb_120 (rfl) rfl fun b4 => ⟨.inr fun _ h => h.pk [2], ?_⟩
        refine GD.eachN2 (i := 3) (j := 9) (by kernel_rfl) rfl rfl ?_ ?_
        · refine ot_call hb_92 rfl (callOk fun w hh => spread_c b 8 blk w (Hd.cells (k := 2) (us := byts blk) rfl (Sh.hc_b h8 hl) w hh) hl) rfl fun _ _ => ⟨.inr fun _ h => h.pk [2], ?_⟩
          refine GD.eachN2 (i := 4) (j := 9) (by kernel_rfl) rfl rfl ?_ ?_
          · refine ot_call hb_93 rfl (callOk fun w hh => factors_c w) rfl fun _ _ => ⟨.inr fun _ h => h.pk [2], ?_⟩
            refine GD.step (i := 9) (by kernel_rfl) rfl (ot_alloc (zs := ws32 (List.replicate 64 0)) zb_125 (rfl) rfl fun b2 => ⟨.inr fun _ h => h.pk [3], ?_⟩)
            refine GD.step (i := 12) (by kernel_rfl) rfl (ot_storeA (k := 0) rfl rfl rfl rfl (by exact sz_125) (by ((simp only [ws32_len, ws8_len, Sh.extTo_len, Sh.iwTo_len, Sh.lwTo_len, Sh.sched_len, Sh.K64_len, Sh.addTo_len, Sh.compress_len, h8, Sh.rounds_len _ _ h8, List.length_replicate, List.length_set]; first | done | decide | omega))) (by (decide)) (by exact ws32_one _) ⟨.inr fun _ h => h.pk [3], ?_⟩)
            refine GD.step (i := 13) (by kernel_rfl) rfl (ot_storeA (k := 2) rfl rfl rfl rfl (by exact sz_125) (by (decide)) (by (decide)) (by exact ws32_one _) ⟨.inr fun _ h => h.pk [3], ?_⟩)
            refine GD.step (i := 14) (by kernel_rfl) rfl (ot_storeA (k := 1) rfl rfl rfl rfl (by exact sz_120) (by ((simp only [ws32_len, ws8_len, Sh.extTo_len, Sh.iwTo_len, Sh.lwTo_len, Sh.sched_len, Sh.K64_len, Sh.addTo_len, Sh.compress_len, h8, Sh.rounds_len _ _ h8, List.length_replicate, List.length_set]; first | done | decide | omega))) (by (decide)) (by exact ws32_one _) ⟨.inr fun _ h => h.pk [3], ?_⟩)
            refine GD.done (by kernel_rfl) ?_
            exact GX.cutq (b2, b3, b4) trivial (by repeat (first | exact Sub.nil | refine Sub.cons rfl ?_)) (fun w9 h => by
                have h := h.sel [3, 1, 2, 0] rfl rfl
                exact h)
          · refine ot_alloc (zs := ws32 (List.replicate 64 0)) zb_125 (rfl) rfl fun b2 => ⟨.inr fun _ h => h.pk [3], ?_⟩
            refine GD.step (i := 4) (by kernel_rfl) rfl (ot_call hb_93 rfl (callOk fun w hh => factors_c w) rfl fun _ _ => ⟨.inr fun _ h => h.pk [3], ?_⟩)
            refine GD.step (i := 12) (by kernel_rfl) rfl (ot_storeA (k := 0) rfl rfl rfl rfl (by exact sz_125) (by ((simp only [ws32_len, ws8_len, Sh.extTo_len, Sh.iwTo_len, Sh.lwTo_len, Sh.sched_len, Sh.K64_len, Sh.addTo_len, Sh.compress_len, h8, Sh.rounds_len _ _ h8, List.length_replicate, List.length_set]; first | done | decide | omega))) (by (decide)) (by exact ws32_one _) ⟨.inr fun _ h => h.pk [3], ?_⟩)
            refine GD.step (i := 13) (by kernel_rfl) rfl (ot_storeA (k := 2) rfl rfl rfl rfl (by exact sz_125) (by (decide)) (by (decide)) (by exact ws32_one _) ⟨.inr fun _ h => h.pk [3], ?_⟩)
            refine GD.step (i := 14) (by kernel_rfl) rfl (ot_storeA (k := 1) rfl rfl rfl rfl (by exact sz_120) (by ((simp only [ws32_len, ws8_len, Sh.extTo_len, Sh.iwTo_len, Sh.lwTo_len, Sh.sched_len, Sh.K64_len, Sh.addTo_len, Sh.compress_len, h8, Sh.rounds_len _ _ h8, List.length_replicate, List.length_set]; first | done | decide | omega))) (by (decide)) (by exact ws32_one _) ⟨.inr fun _ h => h.pk [3], ?_⟩)
            refine GD.done (by kernel_rfl) ?_
            exact GX.cutq (b2, b3, b4) trivial (by repeat (first | exact Sub.nil | refine Sub.cons rfl ?_)) (fun w9 h => by
                have h := h.sel [3, 1, 2, 0] rfl rfl
                exact h)
        · refine ot_alloc (zs := ws32 (List.replicate 64 0)) zb_125 (rfl) rfl fun b2 => ⟨.inr fun _ h => h.pk [3], ?_⟩
          refine GD.step (i := 3) (by kernel_rfl) rfl (ot_call hb_92 rfl (callOk fun w hh => spread_c b 8 blk w (Hd.cells (k := 3) (us := byts blk) rfl (Sh.hc_b h8 hl) w hh) hl) rfl fun _ _ => ⟨.inr fun _ h => h.pk [3], ?_⟩)
          refine GD.step (i := 4) (by kernel_rfl) rfl (ot_call hb_93 rfl (callOk fun w hh => factors_c w) rfl fun _ _ => ⟨.inr fun _ h => h.pk [3], ?_⟩)
          refine GD.step (i := 12) (by kernel_rfl) rfl (ot_storeA (k := 0) rfl rfl rfl rfl (by exact sz_125) (by ((simp only [ws32_len, ws8_len, Sh.extTo_len, Sh.iwTo_len, Sh.lwTo_len, Sh.sched_len, Sh.K64_len, Sh.addTo_len, Sh.compress_len, h8, Sh.rounds_len _ _ h8, List.length_replicate, List.length_set]; first | done | decide | omega))) (by (decide)) (by exact ws32_one _) ⟨.inr fun _ h => h.pk [3], ?_⟩)
          refine GD.step (i := 13) (by kernel_rfl) rfl (ot_storeA (k := 2) rfl rfl rfl rfl (by exact sz_125) (by (decide)) (by (decide)) (by exact ws32_one _) ⟨.inr fun _ h => h.pk [3], ?_⟩)
          refine GD.step (i := 14) (by kernel_rfl) rfl (ot_storeA (k := 1) rfl rfl rfl rfl (by exact sz_120) (by ((simp only [ws32_len, ws8_len, Sh.extTo_len, Sh.iwTo_len, Sh.lwTo_len, Sh.sched_len, Sh.K64_len, Sh.addTo_len, Sh.compress_len, h8, Sh.rounds_len _ _ h8, List.length_replicate, List.length_set]; first | done | decide | omega))) (by (decide)) (by exact ws32_one _) ⟨.inr fun _ h => h.pk [3], ?_⟩)
          refine GD.done (by kernel_rfl) ?_
          exact GX.cutq (b2, b3, b4) trivial (by repeat (first | exact Sub.nil | refine Sub.cons rfl ?_)) (fun w9 h => by
              have h := h.sel [3, 1, 2, 0] rfl rfl
              exact h)
    · refine ot_alloc (zs := ws32 (List.replicate 8 0)) zb_120 (rfl) rfl fun b4 => ⟨.inr fun _ h => h.pk [1], ?_⟩
      refine GD.eachN3 (i := 3) (j := 9) (l := 10) (by kernel_rfl) rfl rfl rfl ?_ ?_ ?_
      · refine ot_call hb_92 rfl (callOk fun w hh => spread_c b 8 blk w (Hd.cells (k := 1) (us := byts blk) rfl (Sh.hc_b h8 hl) w hh) hl) rfl fun _ _ => ⟨.inr fun _ h => h.pk [1], ?_⟩
        refine GD.eachN3 (i := 4) (j := 9) (l := 10) (by kernel_rfl) rfl rfl rfl ?_ ?_ ?_
        · refine ot_call hb_93 rfl (callOk fun w hh => factors_c w) rfl fun _ _ => ⟨.inr fun _ h => h.pk [1], ?_⟩
          refine GD.eachN2 (i := 9) (j := 10) (by kernel_rfl) rfl rfl ?_ ?_
          · refine ot_alloc (zs := ws32 (List.replicate 64 0)) zb_125 (rfl) rfl fun b2 => ⟨.inr fun _ h => h.pk [2], ?_⟩
            refine GD.step (i := 10) (by kernel_rfl) rfl (ot_alloc (zs := ws32 (List.replicate 64 0)) zb_125 (rfl) rfl fun b3 => ⟨.inr fun _ h => h.pk [3], ?_⟩)
            refine GD.step (i := 12) (by kernel_rfl) rfl (ot_storeA (k := 1) rfl rfl rfl rfl (by exact sz_125) (by ((simp only [ws32_len, ws8_len, Sh.extTo_len, Sh.iwTo_len, Sh.lwTo_len, Sh.sched_len, Sh.K64_len, Sh.addTo_len, Sh.compress_len, h8, Sh.rounds_len _ _ h8, List.length_replicate, List.length_set]; first | done | decide | omega))) (by (decide)) (by exact ws32_one _) ⟨.inr fun _ h => h.pk [3], ?_⟩)
            refine GD.step (i := 13) (by kernel_rfl) rfl (ot_storeA (k := 0) rfl rfl rfl rfl (by exact sz_125) (by (decide)) (by (decide)) (by exact ws32_one _) ⟨.inr fun _ h => h.pk [3], ?_⟩)
            refine GD.step (i := 14) (by kernel_rfl) rfl (ot_storeA (k := 2) rfl rfl rfl rfl (by exact sz_120) (by ((simp only [ws32_len, ws8_len, Sh.extTo_len, Sh.iwTo_len, Sh.lwTo_len, Sh.sched_len, Sh.K64_len, Sh.addTo_len, Sh.compress_len, h8, Sh.rounds_len _ _ h8, List.length_replicate, List.length_set]; first | done | decide | omega))) (by (decide)) (by exact ws32_one _) ⟨.inr fun _ h => h.pk [3], ?_⟩)
            refine GD.done (by kernel_rfl) ?_
            exact GX.cutq (b2, b3, b4) trivial (by repeat (first | exact Sub.nil | refine Sub.cons rfl ?_)) (fun w9 h => by
                have h := h.sel [3, 2, 0, 1] rfl rfl
                exact h)
          · refine ot_alloc (zs := ws32 (List.replicate 64 0)) zb_125 (rfl) rfl fun b3 => ⟨.inr fun _ h => h.pk [2], ?_⟩
            refine GD.step (i := 9) (by kernel_rfl) rfl (ot_alloc (zs := ws32 (List.replicate 64 0)) zb_125 (rfl) rfl fun b2 => ⟨.inr fun _ h => h.pk [3], ?_⟩)
            refine GD.step (i := 12) (by kernel_rfl) rfl (ot_storeA (k := 0) rfl rfl rfl rfl (by exact sz_125) (by ((simp only [ws32_len, ws8_len, Sh.extTo_len, Sh.iwTo_len, Sh.lwTo_len, Sh.sched_len, Sh.K64_len, Sh.addTo_len, Sh.compress_len, h8, Sh.rounds_len _ _ h8, List.length_replicate, List.length_set]; first | done | decide | omega))) (by (decide)) (by exact ws32_one _) ⟨.inr fun _ h => h.pk [3], ?_⟩)
            refine GD.step (i := 13) (by kernel_rfl) rfl (ot_storeA (k := 1) rfl rfl rfl rfl (by exact sz_125) (by (decide)) (by (decide)) (by exact ws32_one _) ⟨.inr fun _ h => h.pk [3], ?_⟩)
            refine GD.step (i := 14) (by kernel_rfl) rfl (ot_storeA (k := 2) rfl rfl rfl rfl (by exact sz_120) (by ((simp only [ws32_len, ws8_len, Sh.extTo_len, Sh.iwTo_len, Sh.lwTo_len, Sh.sched_len, Sh.K64_len, Sh.addTo_len, Sh.compress_len, h8, Sh.rounds_len _ _ h8, List.length_replicate, List.length_set]; first | done | decide | omega))) (by (decide)) (by exact ws32_one _) ⟨.inr fun _ h => h.pk [3], ?_⟩)
            refine GD.done (by kernel_rfl) ?_
            exact GX.cutq (b2, b3, b4) trivial (by repeat (first | exact Sub.nil | refine Sub.cons rfl ?_)) (fun w9 h => by
                exact h)
        · refine ot_alloc (zs := ws32 (List.replicate 64 0)) zb_125 (rfl) rfl fun b2 => ⟨.inr fun _ h => h.pk [2], ?_⟩
          refine GD.eachN2 (i := 4) (j := 10) (by kernel_rfl) rfl rfl ?_ ?_
          · refine ot_call hb_93 rfl (callOk fun w hh => factors_c w) rfl fun _ _ => ⟨.inr fun _ h => h.pk [2], ?_⟩
            refine GD.step (i := 10) (by kernel_rfl) rfl (ot_alloc (zs := ws32 (List.replicate 64 0)) zb_125 (rfl) rfl fun b3 => ⟨.inr fun _ h => h.pk [3], ?_⟩)
            refine GD.step (i := 12) (by kernel_rfl) rfl (ot_storeA (k := 1) rfl rfl rfl rfl (by exact sz_125) (by ((simp only [ws32_len, ws8_len, Sh.extTo_len, Sh.iwTo_len, Sh.lwTo_len, Sh.sched_len, Sh.K64_len, Sh.addTo_len, Sh.compress_len, h8, Sh.rounds_len _ _ h8, List.length_replicate, List.length_set]; first | done | decide | omega))) (by (decide)) (by exact ws32_one _) ⟨.inr fun _ h => h.pk [3], ?_⟩)
            refine GD.step (i := 13) (by kernel_rfl) rfl (ot_storeA (k := 0) rfl rfl rfl rfl (by exact sz_125) (by (decide)) (by (decide)) (by exact ws32_one _) ⟨.inr fun _ h => h.pk [3], ?_⟩)
            refine GD.step (i := 14) (by kernel_rfl) rfl (ot_storeA (k := 2) rfl rfl rfl rfl (by exact sz_120) (by ((simp only [ws32_len, ws8_len, Sh.extTo_len, Sh.iwTo_len, Sh.lwTo_len, Sh.sched_len, Sh.K64_len, Sh.addTo_len, Sh.compress_len, h8, Sh.rounds_len _ _ h8, List.length_replicate, List.length_set]; first | done | decide | omega))) (by (decide)) (by exact ws32_one _) ⟨.inr fun _ h => h.pk [3], ?_⟩)
            refine GD.done (by kernel_rfl) ?_
            exact GX.cutq (b2, b3, b4) trivial (by repeat (first | exact Sub.nil | refine Sub.cons rfl ?_)) (fun w9 h => by
                have h := h.sel [3, 2, 0, 1] rfl rfl
                exact h)
          · refine ot_alloc (zs := ws32 (List.replicate 64 0)) zb_125 (rfl) rfl fun b3 => ⟨.inr fun _ h => h.pk [3], ?_⟩
            refine GD.step (i := 4) (by kernel_rfl) rfl (ot_call hb_93 rfl (callOk fun w hh => factors_c w) rfl fun _ _ => ⟨.inr fun _ h => h.pk [3], ?_⟩)
            refine GD.step (i := 12) (by kernel_rfl) rfl (ot_storeA (k := 1) rfl rfl rfl rfl (by exact sz_125) (by ((simp only [ws32_len, ws8_len, Sh.extTo_len, Sh.iwTo_len, Sh.lwTo_len, Sh.sched_len, Sh.K64_len, Sh.addTo_len, Sh.compress_len, h8, Sh.rounds_len _ _ h8, List.length_replicate, List.length_set]; first | done | decide | omega))) (by (decide)) (by exact ws32_one _) ⟨.inr fun _ h => h.pk [3], ?_⟩)
            refine GD.step (i := 13) (by kernel_rfl) rfl (ot_storeA (k := 0) rfl rfl rfl rfl (by exact sz_125) (by (decide)) (by (decide)) (by exact ws32_one _) ⟨.inr fun _ h => h.pk [3], ?_⟩)
            refine GD.step (i := 14) (by kernel_rfl) rfl (ot_storeA (k := 2) rfl rfl rfl rfl (by exact sz_120) (by ((simp only [ws32_len, ws8_len, Sh.extTo_len, Sh.iwTo_len, Sh.lwTo_len, Sh.sched_len, Sh.K64_len, Sh.addTo_len, Sh.compress_len, h8, Sh.rounds_len _ _ h8, List.length_replicate, List.length_set]; first | done | decide | omega))) (by (decide)) (by exact ws32_one _) ⟨.inr fun _ h => h.pk [3], ?_⟩)
            refine GD.done (by kernel_rfl) ?_
            exact GX.cutq (b2, b3, b4) trivial (by repeat (first | exact Sub.nil | refine Sub.cons rfl ?_)) (fun w9 h => by
                have h := h.sel [3, 2, 0, 1] rfl rfl
                exact h)
        · refine ot_alloc (zs := ws32 (List.replicate 64 0)) zb_125 (rfl) rfl fun b3 => ⟨.inr fun _ h => h.pk [2], ?_⟩
          refine GD.eachN2 (i := 4) (j := 9) (by kernel_rfl) rfl rfl ?_ ?_
          · refine ot_call hb_93 rfl (callOk fun w hh => factors_c w) rfl fun _ _ => ⟨.inr fun _ h => h.pk [2], ?_⟩
            refine GD.step (i := 9) (by kernel_rfl) rfl (ot_alloc (zs := ws32 (List.replicate 64 0)) zb_125 (rfl) rfl fun b2 => ⟨.inr fun _ h => h.pk [3], ?_⟩)
            refine GD.step (i := 12) (by kernel_rfl) rfl (ot_storeA (k := 0) rfl rfl rfl rfl (by exact sz_125) (by ((simp only [ws32_len, ws8_len, Sh.extTo_len, Sh.iwTo_len, Sh.lwTo_len, Sh.sched_len, Sh.K64_len, Sh.addTo_len, Sh.compress_len, h8, Sh.rounds_len _ _ h8, List.length_replicate, List.length_set]; first | done | decide | omega))) (by (decide)) (by exact ws32_one _) ⟨.inr fun _ h => h.pk [3], ?_⟩)
            refine GD.step (i := 13) (by kernel_rfl) rfl (ot_storeA (k := 1) rfl rfl rfl rfl (by exact sz_125) (by (decide)) (by (decide)) (by exact ws32_one _) ⟨.inr fun _ h => h.pk [3], ?_⟩)
            refine GD.step (i := 14) (by kernel_rfl) rfl (ot_storeA (k := 2) rfl rfl rfl rfl (by exact sz_120) (by ((simp only [ws32_len, ws8_len, Sh.extTo_len, Sh.iwTo_len, Sh.lwTo_len, Sh.sched_len, Sh.K64_len, Sh.addTo_len, Sh.compress_len, h8, Sh.rounds_len _ _ h8, List.length_replicate, List.length_set]; first | done | decide | omega))) (by (decide)) (by exact ws32_one _) ⟨.inr fun _ h => h.pk [3], ?_⟩)
            refine GD.done (by kernel_rfl) ?_
            exact GX.cutq (b2, b3, b4) trivial (by repeat (first | exact Sub.nil | refine Sub.cons rfl ?_)) (fun w9 h => by
                exact h)
          · refine ot_alloc (zs := ws32 (List.replicate 64 0)) zb_125 (rfl) rfl fun b2 => ⟨.inr fun _ h => h.pk [3], ?_⟩
            refine GD.step (i := 4) (by kernel_rfl) rfl (ot_call hb_93 rfl (callOk fun w hh => factors_c w) rfl fun _ _ => ⟨.inr fun _ h => h.pk [3], ?_⟩)
            refine GD.step (i := 12) (by kernel_rfl) rfl (ot_storeA (k := 0) rfl rfl rfl rfl (by exact sz_125) (by ((simp only [ws32_len, ws8_len, Sh.extTo_len, Sh.iwTo_len, Sh.lwTo_len, Sh.sched_len, Sh.K64_len, Sh.addTo_len, Sh.compress_len, h8, Sh.rounds_len _ _ h8, List.length_replicate, List.length_set]; first | done | decide | omega))) (by (decide)) (by exact ws32_one _) ⟨.inr fun _ h => h.pk [3], ?_⟩)
            refine GD.step (i := 13) (by kernel_rfl) rfl (ot_storeA (k := 1) rfl rfl rfl rfl (by exact sz_125) (by (decide)) (by (decide)) (by exact ws32_one _) ⟨.inr fun _ h => h.pk [3], ?_⟩)
            refine GD.step (i := 14) (by kernel_rfl) rfl (ot_storeA (k := 2) rfl rfl rfl rfl (by exact sz_120) (by ((simp only [ws32_len, ws8_len, Sh.extTo_len, Sh.iwTo_len, Sh.lwTo_len, Sh.sched_len, Sh.K64_len, Sh.addTo_len, Sh.compress_len, h8, Sh.rounds_len _ _ h8, List.length_replicate, List.length_set]; first | done | decide | omega))) (by (decide)) (by exact ws32_one _) ⟨.inr fun _ h => h.pk [3], ?_⟩)
            refine GD.done (by kernel_rfl) ?_
            exact GX.cutq (b2, b3, b4) trivial (by repeat (first | exact Sub.nil | refine Sub.cons rfl ?_)) (fun w9 h => by
                exact h)
      · refine ot_alloc (zs := ws32 (List.replicate 64 0)) zb_125 (rfl) rfl fun b2 => ⟨.inr fun _ h => h.pk [2], ?_⟩
        refine GD.eachN2 (i := 3) (j := 10) (by kernel_rfl) rfl rfl ?_ ?_
        · refine ot_call hb_92 rfl (callOk fun w hh => spread_c b 8 blk w (Hd.cells (k := 2) (us := byts blk) rfl (Sh.hc_b h8 hl) w hh) hl) rfl fun _ _ => ⟨.inr fun _ h => h.pk [2], ?_⟩
          refine GD.eachN2 (i := 4) (j := 10) (by kernel_rfl) rfl rfl ?_ ?_
          · refine ot_call hb_93 rfl (callOk fun w hh => factors_c w) rfl fun _ _ => ⟨.inr fun _ h => h.pk [2], ?_⟩
            refine GD.step (i := 10) (by kernel_rfl) rfl (ot_alloc (zs := ws32 (List.replicate 64 0)) zb_125 (rfl) rfl fun b3 => ⟨.inr fun _ h => h.pk [3], ?_⟩)
            refine GD.step (i := 12) (by kernel_rfl) rfl (ot_storeA (k := 1) rfl rfl rfl rfl (by exact sz_125) (by ((simp only [ws32_len, ws8_len, Sh.extTo_len, Sh.iwTo_len, Sh.lwTo_len, Sh.sched_len, Sh.K64_len, Sh.addTo_len, Sh.compress_len, h8, Sh.rounds_len _ _ h8, List.length_replicate, List.length_set]; first | done | decide | omega))) (by (decide)) (by exact ws32_one _) ⟨.inr fun _ h => h.pk [3], ?_⟩)
            refine GD.step (i := 13) (by kernel_rfl) rfl (ot_storeA (k := 0) rfl rfl rfl rfl (by exact sz_125) (by (decide)) (by (decide)) (by exact ws32_one _) ⟨.inr fun _ h => h.pk [3], ?_⟩)
            refine GD.step (i := 14) (by kernel_rfl) rfl (ot_storeA (k := 2) rfl rfl rfl rfl (by exact sz_120) (by ((simp only [ws32_len, ws8_len, Sh.extTo_len, Sh.iwTo_len, Sh.lwTo_len, Sh.sched_len, Sh.K64_len, Sh.addTo_len, Sh.compress_len, h8, Sh.rounds_len _ _ h8, List.length_replicate, List.length_set]; first | done | decide | omega))) (by (decide)) (by exact ws32_one _) ⟨.inr fun _ h => h.pk [3], ?_⟩)
            refine GD.done (by kernel_rfl) ?_
            exact GX.cutq (b2, b3, b4) trivial (by repeat (first | exact Sub.nil | refine Sub.cons rfl ?_)) (fun w9 h => by
                have h := h.sel [3, 2, 0, 1] rfl rfl
                exact h)
          · refine ot_alloc (zs := ws32 (List.replicate 64 0)) zb_125 (rfl) rfl fun b3 => ⟨.inr fun _ h => h.pk [3], ?_⟩
            refine GD.step (i := 4) (by kernel_rfl) rfl (ot_call hb_93 rfl (callOk fun w hh => factors_c w) rfl fun _ _ => ⟨.inr fun _ h => h.pk [3], ?_⟩)
            refine GD.step (i := 12) (by kernel_rfl) rfl (ot_storeA (k := 1) rfl rfl rfl rfl (by exact sz_125) (by ((simp only [ws32_len, ws8_len, Sh.extTo_len, Sh.iwTo_len, Sh.lwTo_len, Sh.sched_len, Sh.K64_len, Sh.addTo_len, Sh.compress_len, h8, Sh.rounds_len _ _ h8, List.length_replicate, List.length_set]; first | done | decide | omega))) (by (decide)) (by exact ws32_one _) ⟨.inr fun _ h => h.pk [3], ?_⟩)
            refine GD.step (i := 13) (by kernel_rfl) rfl (ot_storeA (k := 0) rfl rfl rfl rfl (by exact sz_125) (by (decide)) (by (decide)) (by exact ws32_one _) ⟨.inr fun _ h => h.pk [3], ?_⟩)
            refine GD.step (i := 14) (by kernel_rfl) rfl (ot_storeA (k := 2) rfl rfl rfl rfl (by exact sz_120) (by ((simp only [ws32_len, ws8_len, Sh.extTo_len, Sh.iwTo_len, Sh.lwTo_len, Sh.sched_len, Sh.K64_len, Sh.addTo_len, Sh.compress_len, h8, Sh.rounds_len _ _ h8, List.length_replicate, List.length_set]; first | done | decide | omega))) (by (decide)) (by exact ws32_one _) ⟨.inr fun _ h => h.pk [3], ?_⟩)
            refine GD.done (by kernel_rfl) ?_
            exact GX.cutq (b2, b3, b4) trivial (by repeat (first | exact Sub.nil | refine Sub.cons rfl ?_)) (fun w9 h => by
                have h := h.sel [3, 2, 0, 1] rfl rfl
                exact h)
        · refine ot_alloc (zs := ws32 (List.replicate 64 0)) zb_125 (rfl) rfl fun b3 => ⟨.inr fun _ h => h.pk [3], ?_⟩
          refine GD.step (i := 3) (by kernel_rfl) rfl (ot_call hb_92 rfl (callOk fun w hh => spread_c b 8 blk w (Hd.cells (k := 3) (us := byts blk) rfl (Sh.hc_b h8 hl) w hh) hl) rfl fun _ _ => ⟨.inr fun _ h => h.pk [3], ?_⟩)
          refine GD.step (i := 4) (by kernel_rfl) rfl (ot_call hb_93 rfl (callOk fun w hh => factors_c w) rfl fun _ _ => ⟨.inr fun _ h => h.pk [3], ?_⟩)
          refine GD.step (i := 12) (by kernel_rfl) rfl (ot_storeA (k := 1) rfl rfl rfl rfl (by exact sz_125) (by ((simp only [ws32_len, ws8_len, Sh.extTo_len, Sh.iwTo_len, Sh.lwTo_len, Sh.sched_len, Sh.K64_len, Sh.addTo_len, Sh.compress_len, h8, Sh.rounds_len _ _ h8, List.length_replicate, List.length_set]; first | done | decide | omega))) (by (decide)) (by exact ws32_one _) ⟨.inr fun _ h => h.pk [3], ?_⟩)
          refine GD.step (i := 13) (by kernel_rfl) rfl (ot_storeA (k := 0) rfl rfl rfl rfl (by exact sz_125) (by (decide)) (by (decide)) (by exact ws32_one _) ⟨.inr fun _ h => h.pk [3], ?_⟩)
          refine GD.step (i := 14) (by kernel_rfl) rfl (ot_storeA (k := 2) rfl rfl rfl rfl (by exact sz_120) (by ((simp only [ws32_len, ws8_len, Sh.extTo_len, Sh.iwTo_len, Sh.lwTo_len, Sh.sched_len, Sh.K64_len, Sh.addTo_len, Sh.compress_len, h8, Sh.rounds_len _ _ h8, List.length_replicate, List.length_set]; first | done | decide | omega))) (by (decide)) (by exact ws32_one _) ⟨.inr fun _ h => h.pk [3], ?_⟩)
          refine GD.done (by kernel_rfl) ?_
          exact GX.cutq (b2, b3, b4) trivial (by repeat (first | exact Sub.nil | refine Sub.cons rfl ?_)) (fun w9 h => by
              have h := h.sel [3, 2, 0, 1] rfl rfl
              exact h)
      · refine ot_alloc (zs := ws32 (List.replicate 64 0)) zb_125 (rfl) rfl fun b3 => ⟨.inr fun _ h => h.pk [2], ?_⟩
        refine GD.eachN2 (i := 3) (j := 9) (by kernel_rfl) rfl rfl ?_ ?_
        · refine ot_call hb_92 rfl (callOk fun w hh => spread_c b 8 blk w (Hd.cells (k := 2) (us := byts blk) rfl (Sh.hc_b h8 hl) w hh) hl) rfl fun _ _ => ⟨.inr fun _ h => h.pk [2], ?_⟩
          refine GD.eachN2 (i := 4) (j := 9) (by kernel_rfl) rfl rfl ?_ ?_
          · refine ot_call hb_93 rfl (callOk fun w hh => factors_c w) rfl fun _ _ => ⟨.inr fun _ h => h.pk [2], ?_⟩
            refine GD.step (i := 9) (by kernel_rfl) rfl (ot_alloc (zs := ws32 (List.replicate 64 0)) zb_125 (rfl) rfl fun b2 => ⟨.inr fun _ h => h.pk [3], ?_⟩)
            refine GD.step (i := 12) (by kernel_rfl) rfl (ot_storeA (k := 0) rfl rfl rfl rfl (by exact sz_125) (by ((simp only [ws32_len, ws8_len, Sh.extTo_len, Sh.iwTo_len, Sh.lwTo_len, Sh.sched_len, Sh.K64_len, Sh.addTo_len, Sh.compress_len, h8, Sh.rounds_len _ _ h8, List.length_replicate, List.length_set]; first | done | decide | omega))) (by (decide)) (by exact ws32_one _) ⟨.inr fun _ h => h.pk [3], ?_⟩)
            refine GD.step (i := 13) (by kernel_rfl) rfl (ot_storeA (k := 1) rfl rfl rfl rfl (by exact sz_125) (by (decide)) (by (decide)) (by exact ws32_one _) ⟨.inr fun _ h => h.pk [3], ?_⟩)
            refine GD.step (i := 14) (by kernel_rfl) rfl (ot_storeA (k := 2) rfl rfl rfl rfl (by exact sz_120) (by ((simp only [ws32_len, ws8_len, Sh.extTo_len, Sh.iwTo_len, Sh.lwTo_len, Sh.sched_len, Sh.K64_len, Sh.addTo_len, Sh.compress_len, h8, Sh.rounds_len _ _ h8, List.length_replicate, List.length_set]; first | done | decide | omega))) (by (decide)) (by exact ws32_one _) ⟨.inr fun _ h => h.pk [3], ?_⟩)
            refine GD.done (by kernel_rfl) ?_
            exact GX.cutq (b2, b3, b4) trivial (by repeat (first | exact Sub.nil | refine Sub.cons rfl ?_)) (fun w9 h => by
                exact h)
          · refine ot_alloc (zs := ws32 (List.replicate 64 0)) zb_125 (rfl) rfl fun b2 => ⟨.inr fun _ h => h.pk [3], ?_⟩
            refine GD.step (i := 4) (by kernel_rfl) rfl (ot_call hb_93 rfl (callOk fun w hh => factors_c w) rfl fun _ _ => ⟨.inr fun _ h => h.pk [3], ?_⟩)
            refine GD.step (i := 12) (by kernel_rfl) rfl (ot_storeA (k := 0) rfl rfl rfl rfl (by exact sz_125) (by ((simp only [ws32_len, ws8_len, Sh.extTo_len, Sh.iwTo_len, Sh.lwTo_len, Sh.sched_len, Sh.K64_len, Sh.addTo_len, Sh.compress_len, h8, Sh.rounds_len _ _ h8, List.length_replicate, List.length_set]; first | done | decide | omega))) (by (decide)) (by exact ws32_one _) ⟨.inr fun _ h => h.pk [3], ?_⟩)
            refine GD.step (i := 13) (by kernel_rfl) rfl (ot_storeA (k := 1) rfl rfl rfl rfl (by exact sz_125) (by (decide)) (by (decide)) (by exact ws32_one _) ⟨.inr fun _ h => h.pk [3], ?_⟩)
            refine GD.step (i := 14) (by kernel_rfl) rfl (ot_storeA (k := 2) rfl rfl rfl rfl (by exact sz_120) (by ((simp only [ws32_len, ws8_len, Sh.extTo_len, Sh.iwTo_len, Sh.lwTo_len, Sh.sched_len, Sh.K64_len, Sh.addTo_len, Sh.compress_len, h8, Sh.rounds_len _ _ h8, List.length_replicate, List.length_set]; first | done | decide | omega))) (by (decide)) (by exact ws32_one _) ⟨.inr fun _ h => h.pk [3], ?_⟩)
            refine GD.done (by kernel_rfl) ?_
            exact GX.cutq (b2, b3, b4) trivial (by repeat (first | exact Sub.nil | refine Sub.cons rfl ?_)) (fun w9 h => by
                exact h)
        · refine ot_alloc (zs := ws32 (List.replicate 64 0)) zb_125 (rfl) rfl fun b2 => ⟨.inr fun _ h => h.pk [3], ?_⟩
          refine GD.step (i := 3) (by kernel_rfl) rfl (ot_call hb_92 rfl (callOk fun w hh => spread_c b 8 blk w (Hd.cells (k := 3) (us := byts blk) rfl (Sh.hc_b h8 hl) w hh) hl) rfl fun _ _ => ⟨.inr fun _ h => h.pk [3], ?_⟩)
          refine GD.step (i := 4) (by kernel_rfl) rfl (ot_call hb_93 rfl (callOk fun w hh => factors_c w) rfl fun _ _ => ⟨.inr fun _ h => h.pk [3], ?_⟩)
          refine GD.step (i := 12) (by kernel_rfl) rfl (ot_storeA (k := 0) rfl rfl rfl rfl (by exact sz_125) (by ((simp only [ws32_len, ws8_len, Sh.extTo_len, Sh.iwTo_len, Sh.lwTo_len, Sh.sched_len, Sh.K64_len, Sh.addTo_len, Sh.compress_len, h8, Sh.rounds_len _ _ h8, List.length_replicate, List.length_set]; first | done | decide | omega))) (by (decide)) (by exact ws32_one _) ⟨.inr fun _ h => h.pk [3], ?_⟩)
          refine GD.step (i := 13) (by kernel_rfl) rfl (ot_storeA (k := 1) rfl rfl rfl rfl (by exact sz_125) (by (decide)) (by (decide)) (by exact ws32_one _) ⟨.inr fun _ h => h.pk [3], ?_⟩)
          refine GD.step (i := 14) (by kernel_rfl) rfl (ot_storeA (k := 2) rfl rfl rfl rfl (by exact sz_120) (by ((simp only [ws32_len, ws8_len, Sh.extTo_len, Sh.iwTo_len, Sh.lwTo_len, Sh.sched_len, Sh.K64_len, Sh.addTo_len, Sh.compress_len, h8, Sh.rounds_len _ _ h8, List.length_replicate, List.length_set]; first | done | decide | omega))) (by (decide)) (by exact ws32_one _) ⟨.inr fun _ h => h.pk [3], ?_⟩)
          refine GD.done (by kernel_rfl) ?_
          exact GX.cutq (b2, b3, b4) trivial (by repeat (first | exact Sub.nil | refine Sub.cons rfl ?_)) (fun w9 h => by
              exact h)
  dsimp only
  refine GX.then ?_
  refine GC.seq ?_
  refine GC.seq ?_
  refine GC.reg ?_
  refine GL.val (rv_move rfl) rfl ?_
  refine GL.nil ?_
  refine GX.then ?_
  refine GC.block ?_
  refine GC.loopK (γ := Nat) [4, 3, 2, 0] [3, 1, 0] (fun g Lk => (21, .int .i64 (g : Int)) :: Lk) (fun g Fk => .cl b4 (ws32 (Sh.rounds (Sh.sched blk) hw g)) 120 :: Fk) (fun g => g ≤ 64) (fun g => 64 - g) (0) rfl rfl (Nat.zero_le _) (by repeat (first | exact Sub.nil | refine Sub.cons rfl ?_)) (fun w9 h => by
      have h := h.sel [3, 1, 0, 2] rfl rfl
      exact h) (fun t ht => ?_)
  skip
  refine GC.seq ?_
  refine GC.reg ?_
  refine GL.val (rv_lss rfl rfl) rfl ?_
  refine GL.nil ?_
  refine GX.then ?_
  refine GC.seq ?_
  refine GC.condP rfl (fun c22 => ?_) (fun c22 => ?_)
  · have hlt : t < 64 := by omega
    obtain ⟨a0, a1, a2, a3, a4, a5, a6, a7, hv⟩ := Sh.eight _ (Sh.rounds_len (Sh.sched blk) hw h8 t)
    rw [hv]
    refine GC.skip ?_
    refine GX.then ?_
    refine GC.seq ?_
    refine GC.block ?_
    refine GC.seq ?_
    refine GC.reg ?_
    refine GL.val (rv_move rfl) rfl ?_
    refine GL.val (rv_assign rfl) rfl ?_
    refine GL.nil ?_
    refine GX.then ?_
    refine GC.seq ?_
    refine GC.draw 6 [0, 1, 2, 3] mo_ ?_
    refine GD.pure1 (i := 0) rfl (fun _ _ => rv_elemAJ (q := 0) (0) as_120 rfl rfl (by rfl) (by omega) (by rfl)) ?_
    refine GD.pure1 (i := 2) rfl (fun _ _ => rv_elemAJ (q := 4) (4) as_120 rfl rfl (by rfl) (by omega) (by rfl)) ?_
    refine GD.read1 (i := 1) rfl (rv_load ag_119 rfl (by exact Hd.cell (k := 0) rfl rfl)) ?_
    refine GD.pure1 (i := 4) rfl (fun _ _ => rv_assign rfl) ?_
    refine GD.step (i := 3) (by kernel_rfl) rfl (ot_val (rv_load ag_119 rfl (by exact Hd.cell (k := 0) rfl rfl)) rfl ⟨.inr fun _ h => h.pk [0, 1, 2, 3], ?_⟩)
    refine GD.pure1 (i := 5) rfl (fun _ _ => rv_assign rfl) ?_
    refine GD.done (by kernel_rfl) ?_
    refine GX.then ?_
    refine GC.seq ?_
    refine GC.draw 31 [0, 1, 2, 3] mo_ ?_
    refine GD.pure1 (i := 0) rfl (fun _ _ => rv_elemAJ (q := 7) (7) as_120 rfl rfl (by rfl) (by omega) (by rfl)) ?_
    refine GD.pure1 (i := 2) rfl (fun _ _ => rv_move rfl) ?_
    refine GD.pure1 (i := 4) rfl (fun _ _ => rv_move rfl) ?_
    refine GD.pure1 (i := 7) rfl (fun _ _ => rv_move rfl) ?_
    refine GD.pure1 (i := 11) rfl (fun _ _ => rv_move rfl) ?_
    refine GD.pure1 (i := 12) rfl (fun _ _ => rv_elemAJ (q := 5) (5) as_120 rfl rfl (by rfl) (by omega) (by rfl)) ?_
    refine GD.pure1 (i := 15) rfl (fun _ _ => rv_move rfl) ?_
    refine GD.pure1 (i := 16) rfl (fun _ _ => rv_not32 rfl) ?_
    refine GD.pure1 (i := 17) rfl (fun _ _ => rv_elemAJ (q := 6) (6) as_120 rfl rfl (by rfl) (by omega) (by rfl)) ?_
    refine GD.pure1 (i := 22) rfl (fun _ _ => rv_move rfl) ?_
    refine GD.pure1 (i := 23) rfl (fun _ _ => rv_elemAJ (q := t) (t) as_125 rfl rfl (by rfl) (by omega) (by omega)) ?_
    refine GD.pure1 (i := 26) rfl (fun _ _ => rv_move rfl) ?_
    refine GD.pure1 (i := 27) rfl (fun _ _ => rv_elemAJ (q := t) (t) as_125 rfl rfl (by rfl) (by omega) (by omega)) ?_
    refine GD.read1 (i := 1) rfl (rv_load ag_119 rfl (by exact Hd.cell (k := 0) rfl rfl)) ?_
    refine GD.read1 (i := 13) rfl (rv_load ag_119 rfl (by exact Hd.cell (k := 0) rfl rfl)) ?_
    refine GD.pure1 (i := 14) rfl (fun _ _ => rv_and32 rfl rfl) ?_
    refine GD.read1 (i := 18) rfl (rv_load ag_119 rfl (by exact Hd.cell (k := 0) rfl rfl)) ?_
    refine GD.pure1 (i := 19) rfl (fun _ _ => rv_and32 rfl rfl) ?_
    refine GD.pure1 (i := 20) rfl (fun _ _ => rv_xor32 rfl rfl) ?_
    refine GD.read1 (i := 24) rfl (rv_load ag_119 rfl (Hd.cell (k := 2) rfl (ws32_get (by (simp only [ws32_len, ws8_len, Sh.extTo_len, Sh.iwTo_len, Sh.lwTo_len, Sh.sched_len, Sh.K64_len, Sh.addTo_len, Sh.compress_len, h8, Sh.rounds_len _ _ h8, List.length_replicate, List.length_set]; first | done | decide | omega))))) ?_
    refine GD.read1 (i := 28) rfl (rv_load ag_119 rfl (Hd.cell (k := 1) rfl (ws32_get (by (simp only [ws32_len, ws8_len, Sh.extTo_len, Sh.iwTo_len, Sh.lwTo_len, Sh.sched_len, Sh.K64_len, Sh.addTo_len, Sh.compress_len, h8, Sh.rounds_len _ _ h8, List.length_replicate, List.length_set]; first | done | decide | omega))))) ?_
    refine GD.step (i := 3) (by kernel_rfl) rfl (ot_call hb_94 rfl (callOk fun w hh => rot_c _ 6 (by decide) (by decide) w) rfl fun _ _ => ⟨.inr fun _ h => h.pk [0, 1, 2, 3], ?_⟩)
    refine GD.step (i := 5) (by kernel_rfl) rfl (ot_call hb_94 rfl (callOk fun w hh => rot_c _ 11 (by decide) (by decide) w) rfl fun _ _ => ⟨.inr fun _ h => h.pk [0, 1, 2, 3], ?_⟩)
    refine GD.pure1 (i := 6) rfl (fun _ _ => rv_xor32 rfl rfl) ?_
    refine GD.step (i := 8) (by kernel_rfl) rfl (ot_call hb_94 rfl (callOk fun w hh => rot_c _ 25 (by decide) (by decide) w) rfl fun _ _ => ⟨.inr fun _ h => h.pk [0, 1, 2, 3], ?_⟩)
    refine GD.pure1 (i := 9) rfl (fun _ _ => rv_xor32 rfl rfl) ?_
    refine GD.pure1 (i := 10) rfl (fun _ _ => rv_add32 rfl rfl) ?_
    refine GD.pure1 (i := 21) rfl (fun _ _ => rv_add32 rfl rfl) ?_
    refine GD.pure1 (i := 25) rfl (fun _ _ => rv_add32 rfl rfl) ?_
    refine GD.pure1 (i := 29) rfl (fun _ _ => rv_add32 rfl rfl) ?_
    refine GD.pure1 (i := 30) rfl (fun _ _ => rv_assign rfl) ?_
    refine GD.done (by kernel_rfl) ?_
    refine GX.then ?_
    refine GC.seq ?_
    refine GC.draw 25 [0, 1, 2, 3] mo_ ?_
    refine GD.pure1 (i := 0) rfl (fun _ _ => rv_move rfl) ?_
    refine GD.pure1 (i := 2) rfl (fun _ _ => rv_move rfl) ?_
    refine GD.pure1 (i := 5) rfl (fun _ _ => rv_move rfl) ?_
    refine GD.pure1 (i := 8) rfl (fun _ _ => rv_move rfl) ?_
    refine GD.pure1 (i := 9) rfl (fun _ _ => rv_elemAJ (q := 1) (1) as_120 rfl rfl (by rfl) (by omega) (by rfl)) ?_
    refine GD.pure1 (i := 12) rfl (fun _ _ => rv_move rfl) ?_
    refine GD.pure1 (i := 13) rfl (fun _ _ => rv_elemAJ (q := 2) (2) as_120 rfl rfl (by rfl) (by omega) (by rfl)) ?_
    refine GD.pure1 (i := 17) rfl (fun _ _ => rv_elemAJ (q := 1) (1) as_120 rfl rfl (by rfl) (by omega) (by rfl)) ?_
    refine GD.pure1 (i := 19) rfl (fun _ _ => rv_elemAJ (q := 2) (2) as_120 rfl rfl (by rfl) (by omega) (by rfl)) ?_
    refine GD.read1 (i := 10) rfl (rv_load ag_119 rfl (by exact Hd.cell (k := 0) rfl rfl)) ?_
    refine GD.pure1 (i := 11) rfl (fun _ _ => rv_and32 rfl rfl) ?_
    refine GD.read1 (i := 14) rfl (rv_load ag_119 rfl (by exact Hd.cell (k := 0) rfl rfl)) ?_
    refine GD.pure1 (i := 15) rfl (fun _ _ => rv_and32 rfl rfl) ?_
    refine GD.pure1 (i := 16) rfl (fun _ _ => rv_xor32 rfl rfl) ?_
    refine GD.read1 (i := 18) rfl (rv_load ag_119 rfl (by exact Hd.cell (k := 0) rfl rfl)) ?_
    refine GD.read1 (i := 20) rfl (rv_load ag_119 rfl (by exact Hd.cell (k := 0) rfl rfl)) ?_
    refine GD.pure1 (i := 21) rfl (fun _ _ => rv_and32 rfl rfl) ?_
    refine GD.pure1 (i := 22) rfl (fun _ _ => rv_xor32 rfl rfl) ?_
    refine GD.step (i := 1) (by kernel_rfl) rfl (ot_call hb_94 rfl (callOk fun w hh => rot_c _ 2 (by decide) (by decide) w) rfl fun _ _ => ⟨.inr fun _ h => h.pk [0, 1, 2, 3], ?_⟩)
    refine GD.step (i := 3) (by kernel_rfl) rfl (ot_call hb_94 rfl (callOk fun w hh => rot_c _ 13 (by decide) (by decide) w) rfl fun _ _ => ⟨.inr fun _ h => h.pk [0, 1, 2, 3], ?_⟩)
    refine GD.pure1 (i := 4) rfl (fun _ _ => rv_xor32 rfl rfl) ?_
    refine GD.step (i := 6) (by kernel_rfl) rfl (ot_call hb_94 rfl (callOk fun w hh => rot_c _ 22 (by decide) (by decide) w) rfl fun _ _ => ⟨.inr fun _ h => h.pk [0, 1, 2, 3], ?_⟩)
    refine GD.pure1 (i := 7) rfl (fun _ _ => rv_xor32 rfl rfl) ?_
    refine GD.pure1 (i := 23) rfl (fun _ _ => rv_add32 rfl rfl) ?_
    refine GD.pure1 (i := 24) rfl (fun _ _ => rv_assign rfl) ?_
    refine GD.done (by kernel_rfl) ?_
    refine GX.then ?_
    refine GC.seq ?_
    refine GC.draw 2 [] mo_ ?_
    refine GD.pure1 (i := 0) rfl (fun _ _ => rv_slA (E := 119) as_120 rfl rfl rfl (1) (8) (1) (by rfl) (by rfl) (by decide) (by decide) (by decide) (by rfl)) ?_
    refine GD.pure1 (i := 1) rfl (fun _ _ => rv_slA (E := 119) as_120 rfl rfl rfl (0) (7) (0) (by rfl) (by rfl) (by decide) (by decide) (by decide) (by rfl)) ?_
    refine GD.step (i := 2) (by kernel_rfl) rfl (ot_copy (k := 0) (us := ws32 [a0, a1, a2, a3, a4, a5, a6]) (cs' := ws32 [a0, a0, a1, a2, a3, a4, a5, a6]) ei_130 rfl rfl rfl rfl (fun w h => .inr ⟨b4, 0, rfl, Hd.cells (k := 0) rfl rfl w h⟩) rfl rfl (by simp [ws32_len]) rfl rfl ⟨.inl rfl, ?_⟩)
    refine GD.done (by kernel_rfl) ?_
    refine GX.then ?_
    refine GC.reg ?_
    refine GL.val (rv_move rfl) rfl ?_
    refine GL.val (rv_move rfl) rfl ?_
    refine GL.val (rv_add32 rfl rfl) rfl ?_
    refine GL.val (rv_elemAJ (q := 4) (4) as_120 rfl rfl (by rfl) (by omega) (by rfl)) rfl ?_
    refine GL.val (rv_load ag_119 rfl (by exact Hd.cell (k := 0) rfl rfl)) rfl ?_
    refine GL.val (rv_move rfl) rfl ?_
    refine GL.val (rv_add32 rfl rfl) rfl ?_
    refine GL.val (rv_elemAJ (q := 0) (0) as_120 rfl rfl (by rfl) (by omega) (by rfl)) rfl ?_
    refine GL.step (ot_store1 (k := 0) (cs' := ws32 [_, a0, a1, a2, a3, a4, a5, a6]) rfl rfl rfl rfl (by exact sz_119) rfl (by simp [ws32_len]) rfl ?_)
    refine GL.val (rv_elemAJ (q := 4) (4) as_120 rfl rfl (by rfl) (by omega) (by rfl)) rfl ?_
    refine GL.step (ot_store1 (k := 0) (cs' := ws32 [_, a0, a1, a2, _, a4, a5, a6]) rfl rfl rfl rfl (by exact sz_119) rfl (by simp [ws32_len]) rfl ?_)
    refine GL.nil ?_
    refine GX.blk ?_
    refine GX.then ?_
    refine GC.reg ?_
    refine GL.val (rv_add rfl rfl (by omega) (by omega)) rfl ?_
    refine GL.val (rv_move rfl) rfl ?_
    refine GL.nil ?_
    exact GX.round (t + 1) (by omega) (by omega) (by repeat (first | exact Sub.nil | refine Sub.cons rfl ?_)) (fun w9 h => by
        rw [show Sh.rounds (Sh.sched blk) hw (t + 1) = Sh.rnd (Sh.K64.getD t 0) ((Sh.sched blk).getD t 0) [a0, a1, a2, a3, a4, a5, a6, a7] from by rw [← hv]; rfl]
        simp only [Sh.rnd, Sh.xx, Sh.zz, Sh.mm, Sh.not_xor, UInt32.add_assoc, List.getD_cons_zero, List.getD_cons_succ] at h ⊢
        exact h)
  · obtain rfl : t = 64 := by omega
    refine GC.exit ?_
    refine GX.then_exit ?_
    refine GX.then_exit ?_
    refine GX.blk_eq ?_
    refine GX.then ?_
    refine GC.seq ?_
    refine GC.seq ?_
    refine GC.reg ?_
    refine GL.val (rv_loadAL ag_120 rfl (by exact Hd.cellsAll (k := 0) rfl) (by exact sz_120) (by ((simp only [ws32_len, ws8_len, Sh.extTo_len, Sh.iwTo_len, Sh.lwTo_len, Sh.sched_len, Sh.K64_len, Sh.addTo_len, Sh.compress_len, h8, Sh.rounds_len _ _ h8, List.length_replicate, List.length_set]; first | done | decide | omega)))) rfl ?_
    refine GL.val (rv_move rfl) rfl ?_
    refine GL.nil ?_
    refine GX.then ?_
    refine GC.block ?_
    refine GC.loopK (γ := Nat) [95, 0] [2, 1, 0] (fun g Lk => (96, .int .i64 (g : Int)) :: Lk) (fun g Fk => .cl b (Sh.hc (Sh.addTo hw (Sh.rounds (Sh.sched blk) hw 64) g) blk hv n) 122 :: Fk) (fun g => g ≤ 8) (fun g => 8 - g) (0) rfl rfl (Nat.zero_le _) (by repeat (first | exact Sub.nil | refine Sub.cons rfl ?_)) (fun w9 h => by
        have h := h.sel [2, 1, 0, 3] rfl rfl
        exact h) (fun i hi => ?_)
    skip
    have h8i : (Sh.addTo hw (Sh.rounds (Sh.sched blk) hw 64) i).length = 8 := by rw [Sh.addTo_len]; exact h8
    refine GC.seq ?_
    refine GC.reg ?_
    refine GL.val (rv_lss rfl rfl) rfl ?_
    refine GL.nil ?_
    refine GX.then ?_
    refine GC.seq ?_
    refine GC.condP rfl (fun c97 => ?_) (fun c97 => ?_)
    · have hlt : i < 8 := by omega
      refine GC.skip ?_
      refine GX.then ?_
      refine GC.seq ?_
      refine GC.block ?_
      refine GC.seq ?_
      refine GC.reg ?_
      refine GL.val (rv_move rfl) rfl ?_
      refine GL.val (rv_index (i) Try.underlying120 (by exact sz_119) ag_119 rfl rfl (by rfl) (by omega) (ws32_get (by (simp only [ws32_len, ws8_len, Sh.extTo_len, Sh.iwTo_len, Sh.lwTo_len, Sh.sched_len, Sh.K64_len, Sh.addTo_len, Sh.compress_len, h8, Sh.rounds_len _ _ h8, List.length_replicate, List.length_set]; first | done | decide | omega)))) rfl ?_
      refine GL.val (rv_assign rfl) rfl ?_
      refine GL.val (rv_assign rfl) rfl ?_
      refine GL.nil ?_
      refine GX.then ?_
      refine GC.draw 11 [0, 1, 2, 3] mo_ ?_
      refine GD.pure1 (i := 0) rfl (fun _ _ => rv_move rfl) ?_
      refine GD.pure1 (i := 1) rfl (fun _ _ => rv_move rfl) ?_
      refine GD.pure1 (i := 2) rfl (fun _ _ => rv_nil rfl) ?_
      refine GD.pure1 (i := 3) rfl (fun _ _ => rv_field fo_122_0 rfl rfl) ?_
      refine GD.pure1 (i := 4) rfl (fun _ _ => rv_elemAJ (q := i) (i) as_120 rfl rfl (by rfl) (by omega) (by omega)) ?_
      refine GD.pure1 (i := 6) rfl (fun _ _ => rv_move rfl) ?_
      refine GD.pure1 (i := 8) rfl (fun _ _ => rv_nil rfl) ?_
      refine GD.pure1 (i := 9) rfl (fun _ _ => rv_field fo_122_0 rfl rfl) ?_
      refine GD.step (i := 5) (by kernel_rfl) rfl (ot_val (rv_load ag_119 rfl (Hd.cell (k := 0) rfl (Sh.hc_h h8i hl (by omega)))) rfl ⟨.inr fun _ h => h.pk [0, 1, 2, 3], ?_⟩)
      refine GD.pure1 (i := 7) rfl (fun _ _ => rv_add32 rfl rfl) ?_
      refine GD.pure1 (i := 10) rfl (fun _ _ => rv_elemAJ (q := i) (i) as_120 rfl rfl (by rfl) (by omega) (by omega)) ?_
      refine GD.step (i := 11) (by kernel_rfl) rfl (ot_store1 (k := 0) rfl rfl rfl rfl (by exact sz_119) rfl (by rw [Sh.hc_len h8i hl]; omega) (Sh.hc_seth h8i hl _ _ (by omega)) ⟨.inl rfl, ?_⟩)
      refine GD.done (by kernel_rfl) ?_
      refine GX.blk ?_
      refine GX.then ?_
      refine GC.reg ?_
      refine GL.val (rv_add rfl rfl (by omega) (by omega)) rfl ?_
      refine GL.val (rv_move rfl) rfl ?_
      refine GL.nil ?_
      exact GX.round (i + 1) (by omega) (by omega) (by repeat (first | exact Sub.nil | refine Sub.cons rfl ?_)) (fun w9 h => by
          exact h)
    · obtain rfl : i = 8 := by omega
      rw [show Sh.addTo hw (Sh.rounds (Sh.sched blk) hw 64) 8 = Sh.compress hw blk from by unfold Sh.compress; rfl]
      have hc8 := (Sh.compress_len hw blk).trans h8
      refine GC.exit ?_
      refine GX.then_exit ?_
      refine GX.then_exit ?_
      refine GX.blk_eq ?_
      refine GX.then ?_
      refine GC.reg ?_
      refine GL.val (rv_move rfl) rfl ?_
      refine GL.val (rv_nil rfl) rfl ?_
      refine GL.val (rv_field fo_122_2 rfl rfl) rfl ?_
      refine GL.step (ot_store1 (k := 0) rfl rfl rfl rfl (by exact sz_3) rfl (by rw [Sh.hc_len hc8 hl]; omega) (Sh.hc_setv hc8 hl 0) ?_)
      refine GL.nil ?_
      refine GX.end0 rfl ?_
      exact fun w9 h => ⟨(), rfl, by
          have h := h.sel [0] rfl rfl
          exact h, trivial⟩
end Go.Proofs.Ytkifeeiafachpaa
