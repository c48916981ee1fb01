import Derived.Test.YtkifeeiafachpaaD
set_option linter.unusedVariables false
set_option linter.unusedSimpArgs false
namespace Go.Proofs.Ytkifeeiafachpaa
open Go Go.RowKit Go.Bz
theorem ag_24 : aggB Try.prog 24 = some false := by kernel_rfl
theorem ag_3 : aggB Try.prog 3 = some false := by kernel_rfl
theorem fo_122_3 : fieldOff Try.prog 122 3 = some 73 := by kernel_rfl
theorem hb_85 : hasBody Try.prog 85 = true := by kernel_rfl
theorem sz_24 : (Try.prog.info? 24).map (·.size) = some 1 := by kernel_rfl
theorem slA_take {S : Nat → Prop} {w : World} {A : Option Addr} {bs : Sh.B} (h : SlA S w A (byts bs)) (k : Nat) : SlA S w A (byts (bs.take k)) := by
  rcases h with h | ⟨b, o, h1, h2, h3⟩
  · left; rw [Sh.byts_take, h]; simp
  · refine .inr ⟨b, o, h1, fun j u hj => h2 j u ?_, h3⟩
    rw [Sh.byts_take, List.getElem?_take] at hj
    split at hj
    · exact hj
    · cases hj
theorem slA_drop {S : Nat → Prop} {w : World} {A : Option Addr} {bs : Sh.B} {m c : Nat} (h : SlA S w A (byts bs)) (hc : bs.length ≤ c) : SlA S w (sAddr A c m 1) (byts (bs.drop m)) := by
  have := h.drop (l := m) (m := c) (sz := 1) (fun hd => by
    by_cases h2 : m < c
    · exact h2
    · exfalso; apply hd; rw [List.drop_of_length_le (by rw [byts_len]; omega)])
  rwa [Nat.mul_one, ← Sh.byts_drop] at this
set_option maxRecDepth 100000 in
set_option maxHeartbeats 1000000 in
theorem write_c (b l c : Nat) (A : Option Addr) (m bs : Sh.B) (hw : Sh.W) (blk : Sh.B) (hv : Nat) (w : World) (S : Nat → Prop) (hr : Sh.Rep m hw blk hv) (hA : (Pc.cl b (Sh.hc hw blk hv (UInt64.ofNat m.length)) 122).A S w) (hb : ∀ x, S x → x < w.heap.size)
    (hR : SlA S w A (byts bs)) (hl : bs.length = l) (hc : l ≤ c) (hbig : l < 4611686018427387904) :
    Calls Try.prog 76 [.pointer (some ⟨b, 0, none⟩), .slice A l c].toArray w fun e w' => ∃ g : Sh.W × Sh.B × Nat, e = .returned (.tuple #[]) ∧ St S w w' [.cl b (Sh.hc g.1 g.2.1 g.2.2 (UInt64.ofNat (m ++ bs).length)) 122] ∧ Sh.Rep (m ++ bs) g.1 g.2.1 g.2.2 := by
  refine GC.calls Try.func76 rfl rfl (St.begin1 hA hb) ?_
  subst hl
  refine GC.seq ?_
  refine GC.reg ?_
  refine GL.val (rv_move rfl) rfl ?_
  refine GL.val (rv_nil rfl) rfl ?_
  refine GL.val (rv_field fo_122_3 rfl rfl) rfl ?_
  refine GL.val (rv_load ag_24 rfl (Hd.cell (k := 0) rfl (Sh.hc_n hr.h8 hr.bl))) rfl ?_
  refine GL.val (rv_move rfl) rfl ?_
  refine GL.val (rv_lenSl Try.underlying27 rfl) rfl ?_
  refine GL.val (rv_conv64I (bs.length) Try.underlying3 Try.underlying24 rfl (by rfl)) rfl ?_
  refine GL.val (rv_add64 rfl rfl) rfl ?_
  refine GL.val (rv_nil rfl) rfl ?_
  refine GL.val (rv_field fo_122_3 rfl rfl) rfl ?_
  refine GL.step (ot_store1 (k := 0) (cs' := Sh.hc hw blk hv (UInt64.ofNat (m ++ bs).length)) rfl rfl rfl rfl (by exact sz_24) rfl (by rw [Sh.hc_len hr.h8 hr.bl]; omega) (by rw [← Sh.ofNat_len]; exact Sh.hc_setn hr.h8 hr.bl _) ?_)
  refine GL.nil ?_
  refine GX.then ?_
  refine GC.block ?_
  refine GC.loopK (γ := Nat × Option Addr × Nat × Sh.W × Sh.B × Nat) [0] [] (fun g Lk => (1, .slice g.2.1 (bs.length - g.1) g.2.2.1) :: Lk) (fun g Fk => .cl b (Sh.hc g.2.2.2.1 g.2.2.2.2.1 g.2.2.2.2.2 (UInt64.ofNat (m ++ bs).length)) 122 :: Fk) (fun g => (g.1 ≤ bs.length) ∧ (Sh.Rep (m ++ bs.take g.1) g.2.2.2.1 g.2.2.2.2.1 g.2.2.2.2.2) ∧ (SlA S w g.2.1 (byts (bs.drop g.1))) ∧ (bs.length - g.1 ≤ g.2.2.1)) (fun g => bs.length - g.1) (0, A, c, hw, blk, hv) rfl rfl ⟨Nat.zero_le _, by rw [List.take_zero, List.append_nil]; exact hr, hR, hc⟩ (by repeat (first | exact Sub.nil | refine Sub.cons rfl ?_)) (fun w9 h => by
      exact h) (fun ⟨j, A1, c1, hw1, blk1, hv1⟩ ⟨hj, hr1, hR1, hc1⟩ => ?_)
  dsimp only at hj hr1 hR1 hc1 ⊢
  refine GC.seq ?_
  refine GC.seq ?_
  refine GC.reg ?_
  refine GL.val (rv_move rfl) rfl ?_
  refine GL.val (rv_lenSl Try.underlying27 rfl) rfl ?_
  refine GL.val (rv_gtr rfl rfl) rfl ?_
  refine GL.nil ?_
  refine GX.then ?_
  refine GC.condP rfl (fun c17 => ?_) (fun c17 => ?_)
  · have hlt : j < bs.length := by omega
    have hv64 := hr1.lt
    have hbl := hr1.bl
    obtain ⟨mm, hmm⟩ : ∃ mm, min (bs.length - j) (64 - hv1) = mm := ⟨_, rfl⟩
    obtain ⟨us, hus⟩ : ∃ us, (bs.drop j).take mm = us := ⟨_, rfl⟩
    have hul : us.length = mm := by rw [← hus, List.length_take, List.length_drop]; omega
    have hb2 : (Sh.blk2 blk1 hv1 us).length = 64 := Sh.blk2_len hbl (by omega)
    refine GC.skip ?_
    refine GX.then ?_
    refine GC.block ?_
    refine GC.seq ?_
    refine GC.draw 9 [0] mo_ ?_
    refine GD.pure1 (i := 0) rfl (fun _ _ => rv_move rfl) ?_
    refine GD.pure1 (i := 1) rfl (fun _ _ => rv_nil rfl) ?_
    refine GD.pure1 (i := 2) rfl (fun _ _ => rv_field fo_122_1 rfl rfl) ?_
    refine GD.pure1 (i := 3) rfl (fun _ _ => rv_move rfl) ?_
    refine GD.pure1 (i := 4) rfl (fun _ _ => rv_nil rfl) ?_
    refine GD.pure1 (i := 5) rfl (fun _ _ => rv_field fo_122_2 rfl rfl) ?_
    refine GD.pure1 (i := 8) rfl (fun _ _ => rv_move rfl) ?_
    refine GD.step (i := 6) (by kernel_rfl) rfl (ot_val (rv_load ag_3 rfl (Hd.cell (k := 0) rfl (Sh.hc_v hr1.h8 hr1.bl))) rfl ⟨.inr fun _ h => h.pk [0], ?_⟩)
    refine GD.pure1 (i := 7) rfl (fun _ _ => rv_slA (E := 5) as_116 rfl rfl rfl (hv1) (64) (8 + hv1) (by rfl) (by rfl) (by omega) (by decide) (by omega) (by omega)) ?_
    refine GD.step (i := 9) (by kernel_rfl) rfl (ot_copy (k := 0) (m := mm) (us := byts us) (cs' := Sh.hc hw1 (Sh.blk2 blk1 hv1 us) hv1 (UInt64.ofNat (m ++ bs).length)) ei_27 rfl rfl hmm rfl (fun w h => (h.rdA (hus ▸ slA_take hR1 mm))) (by rw [byts_len, hul]; omega) (byts_one _) (by rw [byts_len, Sh.hc_len hr1.h8 hr1.bl]; omega) (Sh.hc_copy hr1.h8 hr1.bl hv1 us (by omega)) rfl ⟨.inl rfl, ?_⟩)
    refine GD.pure1 (i := 10) rfl (fun _ _ => rv_assign rfl) ?_
    refine GD.done (by kernel_rfl) ?_
    refine GX.then ?_
    refine GC.seq ?_
    refine GC.draw 12 [0] mo_ ?_
    refine GD.pure1 (i := 0) rfl (fun _ _ => rv_move rfl) ?_
    refine GD.pure1 (i := 1) rfl (fun _ _ => rv_move rfl) ?_
    refine GD.pure1 (i := 2) rfl (fun _ _ => rv_nil rfl) ?_
    refine GD.pure1 (i := 3) rfl (fun _ _ => rv_field fo_122_2 rfl rfl) ?_
    refine GD.pure1 (i := 5) rfl (fun _ _ => rv_move rfl) ?_
    refine GD.pure1 (i := 7) rfl (fun _ _ => rv_move rfl) ?_
    refine GD.pure1 (i := 8) rfl (fun _ _ => rv_move rfl) ?_
    refine GD.pure1 (i := 9) rfl (fun _ _ => rv_slFrom es_27 rfl rfl mm rfl (by omega) (by omega)) ?_
    refine GD.step (i := 4) (by kernel_rfl) rfl (ot_val (rv_load ag_3 rfl (Hd.cell (k := 0) rfl (Sh.hc_v hr1.h8 hb2))) rfl ⟨.inr fun _ h => h.pk [0], ?_⟩)
    refine GD.pure1 (i := 6) rfl (fun _ _ => rv_add rfl rfl (by omega) (by omega)) ?_
    refine GD.pure1 (i := 10) rfl (fun _ _ => rv_nil rfl) ?_
    refine GD.pure1 (i := 11) rfl (fun _ _ => rv_field fo_122_2 rfl rfl) ?_
    refine GD.step (i := 12) (by kernel_rfl) rfl (ot_store1 (k := 0) (cs' := Sh.hc hw1 (Sh.blk2 blk1 hv1 us) (hv1 + us.length) (UInt64.ofNat (m ++ bs).length)) rfl rfl rfl rfl (by exact sz_3) rfl (by rw [Sh.hc_len hr1.h8 hb2]; omega) (by rw [hul]; exact Sh.hc_setv hr1.h8 hb2 (hv1 + mm)) ⟨.inl rfl, ?_⟩)
    refine GD.pure1 (i := 13) rfl (fun _ _ => rv_assign rfl) ?_
    refine GD.done (by kernel_rfl) ?_
    refine GX.then ?_
    refine GC.seq ?_
    refine GC.reg ?_
    refine GL.val (rv_move rfl) rfl ?_
    refine GL.val (rv_nil rfl) rfl ?_
    refine GL.val (rv_field fo_122_2 rfl rfl) rfl ?_
    refine GL.val (rv_load ag_3 rfl (Hd.cell (k := 0) rfl (Sh.hc_v hr1.h8 hb2))) rfl ?_
    refine GL.val (rv_eqI rfl rfl) rfl ?_
    refine GL.nil ?_
    refine GX.then ?_
    refine GC.condP rfl (fun c44 => ?_) (fun c44 => ?_)
    · refine GC.reg ?_
      refine GL.val (rv_move rfl) rfl ?_
      refine GL.step (ot_call hb_85 rfl (callOkM (k := 0) rfl fun w S hh hA hb => mix_c b hw1 (Sh.blk2 blk1 hv1 us) (hv1 + us.length) _ w S hA hb hr1.h8 hb2) rfl fun _ _ => ?_)
      refine GL.nil ?_
      refine GX.blk ?_
      exact GX.round (j + mm, sAddr A1 c1 mm 1, c1 - mm, Sh.compress hw1 (Sh.blk2 blk1 hv1 us), Sh.blk2 blk1 hv1 us, 0) (by dsimp only; omega) ⟨by dsimp only; omega, by dsimp only; rw [Sh.take_more, ← List.append_assoc, hus]; exact hr1.full (by omega), by dsimp only; rw [← List.drop_drop]; exact slA_drop hR1 (by rw [List.length_drop]; omega), by dsimp only; omega⟩ (by dsimp only; rw [show bs.length - (j + mm) = bs.length - j - mm by omega]; exact (by repeat (first | exact Sub.nil | refine Sub.cons rfl ?_))) (fun w9 h => by
          exact h)
    · refine GC.skip ?_
      refine GX.blk ?_
      exact GX.round (j + mm, sAddr A1 c1 mm 1, c1 - mm, hw1, Sh.blk2 blk1 hv1 us, hv1 + us.length) (by dsimp only; omega) ⟨by dsimp only; omega, by dsimp only; rw [Sh.take_more, ← List.append_assoc, hus]; exact hr1.part (by omega), by dsimp only; rw [← List.drop_drop]; exact slA_drop hR1 (by rw [List.length_drop]; omega), by dsimp only; omega⟩ (by dsimp only; rw [show bs.length - (j + mm) = bs.length - j - mm by omega]; exact (by repeat (first | exact Sub.nil | refine Sub.cons rfl ?_))) (fun w9 h => by
          exact h)
  · have hje : j = bs.length := by omega
    rw [hje, List.take_of_length_le (Nat.le_refl _)] at hr1
    refine GC.exit ?_
    refine GX.then_exit ?_
    refine GX.then_exit ?_
    refine GX.blk_eq ?_
    refine GX.end0 rfl ?_
    exact fun w9 h => ⟨(hw1, blk1, hv1), rfl, by
        exact h, hr1⟩
end Go.Proofs.Ytkifeeiafachpaa
