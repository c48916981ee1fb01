import Derived.Test.YtiiofagddljgdaaN
set_option linter.unusedVariables false
set_option linter.unusedSimpArgs false
namespace Go.Proofs.Ytiiofagddljgdaa
open Go Go.RowKit Go.Bz
theorem hb_29 : hasBody Try.prog 29 = true := by kernel_rfl
/-! the reference's keyed digests -/
theorem bAt {w : World} {b o i : Nat} {k : Sh.B} (hC : Cells w b o (byts k)) (h : i < k.length) : w.cell? ⟨b, o + i, none⟩ = some (v8 (k.getD i 0)) := hC i _ (by rw [byts_ws]; exact ws8_get h)
theorem bHead {w : World} {A : Option Addr} {k : Sh.B} (h : SlR w A (byts k)) : k.length = 0 ∨ ∃ b o, A = some ⟨b, o, none⟩ ∧ Cells w b o (byts k) := h.imp (fun e => by have := congrArg List.length e; simpa [byts_len] using this) id
theorem gd0 {k : Sh.B} {i : Nat} (h : k.length ≤ i) : k.getD i 0 = 0 := by rw [List.getD_eq_getElem?_getD, List.getElem?_eq_none h]; rfl
theorem kshort_long {key : Sh.B} (h : 64 < key.length) : kshort key = Sh.sum key := by unfold kshort; rw [if_pos h]
theorem kshort_short {key : Sh.B} (h : key.length ≤ 64) : kshort key = key := by unfold kshort; rw [if_neg (by omega)]
theorem rk_in (k : Sh.B) (t : UInt8) (i : Nat) : ((rkTo k t i).set i t).set i (k.getD i 0 ^^^ t) = rkTo k t (i + 1) := by rw [List.set_set]; rfl
theorem rk_out {k : Sh.B} (t : UInt8) {i : Nat} (h : k.length ≤ i) : (rkTo k t i).set i t = rkTo k t (i + 1) := by
  conv => rhs; unfold rkTo
  rw [gd0 h, UInt8.zero_xor]
theorem rk_end (key : Sh.B) (t : UInt8) : rkTo (kshort key) t 64 = xk (kb key) t := rkTo_all _ t (kshort_len key)
set_option maxRecDepth 100000 in
set_option maxHeartbeats 1000000 in
theorem rkey_c (A : Option Addr) (l c : Nat) (key : Sh.B) (t : UInt8) (w : World) (hR : SlR w A (byts key)) (hl : key.length = l) (hc : l ≤ c) (hbig : l < 70368744177664) : Calls Try.prog 31 [.slice A l c, v8 t].toArray w fun e w' => ∃ g : Option Addr × Nat, e = .returned (.slice g.1 (xk (kb key) t).length g.2) ∧ St noB w w' [roP g.1 (byts (xk (kb key) t))] ∧ (xk (kb key) t).length ≤ g.2 := by
  refine GC.calls Try.func31 rfl rfl (St.begin _) ?_
  subst hl
  have HA := bHead hR
  have hks := kshort_len key
  refine GC.seq ?_
  refine GC.reg ?_
  refine GL.val (rv_assign rfl) rfl ?_
  refine GL.nil ?_
  refine GX.then ?_
  refine GC.seq ?_
  refine GC.seq ?_
  refine GC.reg ?_
  refine GL.val (rv_move rfl) rfl ?_
  refine GL.val (rv_lenSl Try.underlying22 rfl) rfl ?_
  refine GL.val (rv_gtr rfl rfl) rfl ?_
  refine GL.nil ?_
  refine GX.then ?_
  first | refine GC.condP rfl (fun c10 => ?_) (fun c10 => ?_) | refine GC.cond rfl (fun c10 => ?_) (fun c10 => ?_)
  · have c10' : 64 < key.length := by omega
    have hkk := kshort_long c10'
    refine GC.seq ?_
    refine GC.reg ?_
    refine GL.val (rv_move rfl) rfl ?_
    refine GL.step (ot_call hb_29 rfl (callOk fun w hh => rsum_c _ c A key w (hh.rd0n hR) rfl (by omega)) rfl fun _ _ => ?_)
    refine GL.step (ot_alloc (zs := ws8 (List.replicate 32 0)) zb_27 (rfl) rfl fun b5 => ?_)
    refine GL.step (ot_storeA (k := 0) rfl rfl rfl rfl (by exact sz_27) (by first | (first | (simp only [ws8_len, List.length_replicate, Sh.sum_len]; done)) | rfl) (by first | (first | (simp only [ws8_len, List.length_replicate, Sh.sum_len]; done)) | rfl) (by first | exact ws8_one _ | rfl) ?_)
    refine GL.nil ?_
    refine GX.then ?_
    refine GC.reg ?_
    refine GL.val (rv_to (v' := .slice (some ⟨b5, 0, none⟩) (Sh.sum key).length 32) (rv_slA (E := 5) as_27 rfl rfl rfl 0 32 0 rfl rfl (by decide) (by decide) (by decide) rfl) (by rw [Sh.sum_len])) rfl ?_
    refine GL.val (rv_assign rfl) rfl ?_
    refine GL.nil ?_
    refine GX.then ?_
    refine GC.seq ?_
    refine GC.reg ?_
    refine GL.step (ot_make (m := 64) (zs := byts (rkTo (kshort key) t 0)) ei_22 zb_5 rfl rfl rfl (by decide) (by decide) rfl rfl fun b14 => ?_)
    refine GL.val (rv_assign rfl) rfl ?_
    refine GL.nil ?_
    refine GX.then ?_
    refine GC.seq ?_
    refine GC.seq ?_
    refine GC.reg ?_
    refine GL.val (rv_assign rfl) rfl ?_
    refine GL.nil ?_
    refine GX.then ?_
    refine GC.block ?_
    refine GC.loopK (γ := Nat) [6, 1, 0] [1] (fun g Lk => (7, .int .i64 (g : Int)) :: Lk) (fun g Fk => .row (some ⟨b14, 0, none⟩) 64 5 1 64 (byts (rkTo (kshort key) t g)) :: Fk) (fun g => g ≤ 64) (fun g => 64 - g) (0) rfl rfl (Nat.zero_le _) (by repeat (first | exact Sub.nil | refine Sub.cons rfl ?_)) (fun w9 h => by
        exact h) (fun i hi => ?_)
    skip
    refine GC.seq ?_
    refine GC.seq ?_
    refine GC.reg ?_
    refine GL.val (rv_move rfl) rfl ?_
    refine GL.val (rv_lss rfl rfl) rfl ?_
    refine GL.nil ?_
    refine GX.then ?_
    first | refine GC.condP rfl (fun c16 => ?_) (fun c16 => ?_) | refine GC.cond rfl (fun c16 => ?_) (fun c16 => ?_)
    · have hlt : i < 64 := by omega
      refine GC.skip ?_
      refine GX.then ?_
      refine GC.seq ?_
      refine GC.block ?_
      refine GC.seq ?_
      refine GC.reg ?_
      refine GL.val (rv_move rfl) rfl ?_
      refine GL.val (rv_move rfl) rfl ?_
      refine GL.val (rv_move rfl) rfl ?_
      refine GL.val (rv_elemJ (q := i) i es_22 rfl rfl (by omega) (by omega) (by omega)) rfl ?_
      refine GL.step (ot_storeRow (k := 0) rfl rfl rfl rfl (by exact sz_5) rfl (by first | (rw [byts_len, rkTo_len]; omega) | (rw [byts_ws, ws8_set, ws8_len, List.length_set, rkTo_len]; omega)) rfl ?_)
      refine GL.nil ?_
      refine GX.then ?_
      refine GC.seq ?_
      refine GC.reg ?_
      refine GL.val (rv_move rfl) rfl ?_
      refine GL.val (rv_move rfl) rfl ?_
      refine GL.val (rv_lenSl Try.underlying22 rfl) rfl ?_
      refine GL.val (rv_lss rfl rfl) rfl ?_
      refine GL.nil ?_
      refine GX.then ?_
      first | refine GC.condP rfl (fun c26 => ?_) (fun c26 => ?_) | refine GC.cond rfl (fun c26 => ?_) (fun c26 => ?_)
      · have hlk : i < (Sh.sum key).length := by omega
        rw [← hkk] at hlk
        refine GC.reg ?_
        refine GL.val (rv_move rfl) rfl ?_
        refine GL.val (rv_move rfl) rfl ?_
        refine GL.val (rv_move rfl) rfl ?_
        refine GL.val (rv_move rfl) rfl ?_
        refine GL.val (rv_elemJ (q := i) i es_22 rfl rfl (by omega) (by omega) (by omega)) rfl ?_
        refine GL.val (rv_load ag_5 rfl (Hd.cell (k := 1) rfl (ws8_get (by omega)))) rfl ?_
        refine GL.val (rv_move rfl) rfl ?_
        refine GL.val (rv_xor8 rfl rfl) rfl ?_
        refine GL.val (rv_elemJ (q := i) i es_22 rfl rfl (by omega) (by omega) (by omega)) rfl ?_
        refine GL.step (ot_storeRow (k := 0) rfl rfl rfl rfl (by exact sz_5) rfl (by first | (rw [byts_len, rkTo_len]; omega) | (rw [byts_ws, ws8_set, ws8_len, List.length_set, rkTo_len]; omega)) rfl ?_)
        refine GL.nil ?_
        refine GX.blk ?_
        refine GX.then ?_
        refine GC.reg ?_
        refine GL.val (rv_move rfl) rfl ?_
        refine GL.val (rv_add rfl rfl (by omega) (by omega)) rfl ?_
        refine GL.val (rv_assign rfl) rfl ?_
        refine GL.nil ?_
        exact GX.round (i + 1) (by omega) (by omega) (by repeat (first | exact Sub.nil | refine Sub.cons rfl ?_)) (fun w9 h => by
            rw [← rk_in]; simp only [byts_ws, ws8_set, hkk] at h ⊢
            exact h)
      · have hlk : (kshort key).length ≤ i := by rw [hkk]; omega
        refine GC.skip ?_
        refine GX.blk ?_
        refine GX.then ?_
        refine GC.reg ?_
        refine GL.val (rv_move rfl) rfl ?_
        refine GL.val (rv_add rfl rfl (by omega) (by omega)) rfl ?_
        refine GL.val (rv_assign rfl) rfl ?_
        refine GL.nil ?_
        exact GX.round (i + 1) (by omega) (by omega) (by repeat (first | exact Sub.nil | refine Sub.cons rfl ?_)) (fun w9 h => by
            rw [← rk_out t (by omega)]; simp only [byts_ws, ws8_set, hkk] at h ⊢
            exact h)
    · obtain rfl : i = 64 := by omega
      rw [rk_end]
      refine GC.exit ?_
      refine GX.then_exit ?_
      refine GX.then_exit ?_
      refine GX.blk_eq ?_
      refine GX.then ?_
      refine GC.seq ?_
      refine GC.reg ?_
      refine GL.val (rv_move rfl) rfl ?_
      refine GL.val (rv_assign rfl) rfl ?_
      refine GL.nil ?_
      refine GX.then ?_
      refine GC.ret ?_
      refine GX.ret1 rfl (RR.tmp rfl) ?_
      exact fun w9 h => ⟨(some ⟨b14, 0, none⟩, 64), (by simp [xk_len, kb_len]), by
          have h := h.sel [0] rfl rfl
          have h := h.rowRo (k := 0) rfl
          exact h, (by simp [xk_len, kb_len])⟩
  · have hkk := kshort_short (show key.length ≤ 64 by omega)
    refine GC.skip ?_
    refine GX.then ?_
    refine GC.seq ?_
    refine GC.reg ?_
    refine GL.step (ot_make (m := 64) (zs := byts (rkTo (kshort key) t 0)) ei_22 zb_5 rfl rfl rfl (by decide) (by decide) rfl rfl fun b14 => ?_)
    refine GL.val (rv_assign rfl) rfl ?_
    refine GL.nil ?_
    refine GX.then ?_
    refine GC.seq ?_
    refine GC.seq ?_
    refine GC.reg ?_
    refine GL.val (rv_assign rfl) rfl ?_
    refine GL.nil ?_
    refine GX.then ?_
    refine GC.block ?_
    refine GC.loopK (γ := Nat) [6, 1, 0] [] (fun g Lk => (7, .int .i64 (g : Int)) :: Lk) (fun g Fk => .row (some ⟨b14, 0, none⟩) 64 5 1 64 (byts (rkTo (kshort key) t g)) :: Fk) (fun g => g ≤ 64) (fun g => 64 - g) (0) rfl rfl (Nat.zero_le _) (by repeat (first | exact Sub.nil | refine Sub.cons rfl ?_)) (fun w9 h => by
        exact h) (fun i hi => ?_)
    skip
    refine GC.seq ?_
    refine GC.seq ?_
    refine GC.reg ?_
    refine GL.val (rv_move rfl) rfl ?_
    refine GL.val (rv_lss rfl rfl) rfl ?_
    refine GL.nil ?_
    refine GX.then ?_
    first | refine GC.condP rfl (fun c16 => ?_) (fun c16 => ?_) | refine GC.cond rfl (fun c16 => ?_) (fun c16 => ?_)
    · have hlt : i < 64 := by omega
      refine GC.skip ?_
      refine GX.then ?_
      refine GC.seq ?_
      refine GC.block ?_
      refine GC.seq ?_
      refine GC.reg ?_
      refine GL.val (rv_move rfl) rfl ?_
      refine GL.val (rv_move rfl) rfl ?_
      refine GL.val (rv_move rfl) rfl ?_
      refine GL.val (rv_elemJ (q := i) i es_22 rfl rfl (by omega) (by omega) (by omega)) rfl ?_
      refine GL.step (ot_storeRow (k := 0) rfl rfl rfl rfl (by exact sz_5) rfl (by first | (rw [byts_len, rkTo_len]; omega) | (rw [byts_ws, ws8_set, ws8_len, List.length_set, rkTo_len]; omega)) rfl ?_)
      refine GL.nil ?_
      refine GX.then ?_
      refine GC.seq ?_
      refine GC.reg ?_
      refine GL.val (rv_move rfl) rfl ?_
      refine GL.val (rv_move rfl) rfl ?_
      refine GL.val (rv_lenSl Try.underlying22 rfl) rfl ?_
      refine GL.val (rv_lss rfl rfl) rfl ?_
      refine GL.nil ?_
      refine GX.then ?_
      first | refine GC.condP rfl (fun c26 => ?_) (fun c26 => ?_) | refine GC.cond rfl (fun c26 => ?_) (fun c26 => ?_)
      · have hlk : i < key.length := by omega
        obtain ⟨b, o, rfl, hC⟩ := HA.resolve_left (by omega)
        refine GC.reg ?_
        refine GL.val (rv_move rfl) rfl ?_
        refine GL.val (rv_move rfl) rfl ?_
        refine GL.val (rv_move rfl) rfl ?_
        refine GL.val (rv_move rfl) rfl ?_
        refine GL.val (rv_elemJ (q := o + i) i es_22 rfl rfl (by omega) (by omega) (by omega)) rfl ?_
        refine GL.val (rv_load ag_5 rfl (Hd.cell0 (bAt hC hlk) (fun h => h))) rfl ?_
        refine GL.val (rv_move rfl) rfl ?_
        refine GL.val (rv_xor8 rfl rfl) rfl ?_
        refine GL.val (rv_elemJ (q := i) i es_22 rfl rfl (by omega) (by omega) (by omega)) rfl ?_
        refine GL.step (ot_storeRow (k := 0) rfl rfl rfl rfl (by exact sz_5) rfl (by first | (rw [byts_len, rkTo_len]; omega) | (rw [byts_ws, ws8_set, ws8_len, List.length_set, rkTo_len]; omega)) rfl ?_)
        refine GL.nil ?_
        refine GX.blk ?_
        refine GX.then ?_
        refine GC.reg ?_
        refine GL.val (rv_move rfl) rfl ?_
        refine GL.val (rv_add rfl rfl (by omega) (by omega)) rfl ?_
        refine GL.val (rv_assign rfl) rfl ?_
        refine GL.nil ?_
        exact GX.round (i + 1) (by omega) (by omega) (by repeat (first | exact Sub.nil | refine Sub.cons rfl ?_)) (fun w9 h => by
            rw [← rk_in]; simp only [byts_ws, ws8_set, hkk] at h ⊢
            exact h)
      · have hlk : (kshort key).length ≤ i := by rw [hkk]; omega
        refine GC.skip ?_
        refine GX.blk ?_
        refine GX.then ?_
        refine GC.reg ?_
        refine GL.val (rv_move rfl) rfl ?_
        refine GL.val (rv_add rfl rfl (by omega) (by omega)) rfl ?_
        refine GL.val (rv_assign rfl) rfl ?_
        refine GL.nil ?_
        exact GX.round (i + 1) (by omega) (by omega) (by repeat (first | exact Sub.nil | refine Sub.cons rfl ?_)) (fun w9 h => by
            rw [← rk_out t (by omega)]; simp only [byts_ws, ws8_set, hkk] at h ⊢
            exact h)
    · obtain rfl : i = 64 := by omega
      rw [rk_end]
      refine GC.exit ?_
      refine GX.then_exit ?_
      refine GX.then_exit ?_
      refine GX.blk_eq ?_
      refine GX.then ?_
      refine GC.seq ?_
      refine GC.reg ?_
      refine GL.val (rv_move rfl) rfl ?_
      refine GL.val (rv_assign rfl) rfl ?_
      refine GL.nil ?_
      refine GX.then ?_
      refine GC.ret ?_
      refine GX.ret1 rfl (RR.tmp rfl) ?_
      exact fun w9 h => ⟨(some ⟨b14, 0, none⟩, 64), (by simp [xk_len, kb_len]), by
          have h := h.rowRo (k := 0) rfl
          exact h, (by simp [xk_len, kb_len])⟩
end Go.Proofs.Ytiiofagddljgdaa
