import Derived.Test.YtkifeeiafachpaaH
set_option linter.unusedVariables false
set_option linter.unusedSimpArgs false
namespace Go.Proofs.Ytkifeeiafachpaa
section
open Go Go.RowKit Go.Bz
theorem hb_79 : hasBody Try.prog 79 = true := by kernel_rfl
/-! the reference's keyed digests -/
theorem bAt {w : World} {b o i : Nat} {k : Sh.B} (hC : Cells w b o (byts k)) (h : i < k.length) : w.cell? ⟨b, o + i, none⟩ = some (v8 (k.getD i 0)) := hC i _ (by rw [byts_ws]; exact ws8_get h)
theorem bHead {w : World} {A : Option Addr} {k : Sh.B} (h : SlR w A (byts k)) : k.length = 0 ∨ ∃ b o, A = some ⟨b, o, none⟩ ∧ Cells w b o (byts k) := h.imp (fun e => by have := congrArg List.length e; simpa [byts_len] using this) id
theorem gd0 {k : Sh.B} {i : Nat} (h : k.length ≤ i) : k.getD i 0 = 0 := by rw [List.getD_eq_getElem?_getD, List.getElem?_eq_none h]; rfl
theorem kshort_long {key : Sh.B} (h : 64 < key.length) : kshort key = Sh.sum key := by unfold kshort; rw [if_pos h]
theorem kshort_short {key : Sh.B} (h : key.length ≤ 64) : kshort key = key := by unfold kshort; rw [if_neg (by omega)]
theorem rk_in (k : Sh.B) (t : UInt8) (i : Nat) : ((rkTo k t i).set i t).set i (k.getD i 0 ^^^ t) = rkTo k t (i + 1) := by rw [List.set_set]; rfl
theorem rk_out {k : Sh.B} (t : UInt8) {i : Nat} (h : k.length ≤ i) : (rkTo k t i).set i t = rkTo k t (i + 1) := by
  conv => rhs; unfold rkTo
  rw [gd0 h, UInt8.zero_xor]
theorem rk_end (key : Sh.B) (t : UInt8) : rkTo (kshort key) t 64 = xk (kb key) t := rkTo_all _ t (kshort_len key)
set_option maxRecDepth 100000 in
set_option maxHeartbeats 1000000 in
theorem rkey_c (A : Option Addr) (l c : Nat) (key : Sh.B) (t : UInt8) (w : World) (hR : SlR w A (byts key)) (hl : key.length = l) (hc : l ≤ c) (hbig : l < 70368744177664) : Calls Try.prog 81 [.slice A l c, v8 t].toArray w fun e w' => ∃ g : Option Addr × Nat, e = .returned (.slice g.1 (xk (kb key) t).length g.2) ∧ St noB w w' [roP g.1 (byts (xk (kb key) t))] ∧ (xk (kb key) t).length ≤ g.2 := by
  refine GC.calls Try.func81 rfl rfl (St.begin _) ?_
  subst hl
  have HA := bHead hR
  have hks := kshort_len key
  refine GC.seq ?_
  refine GC.reg ?_
  refine GL.val (rv_assign rfl) rfl ?_
  refine GL.nil ?_
  refine GX.then ?_
  refine GC.seq ?_
  refine GC.seq ?_
  refine GC.reg ?_
  refine GL.val (rv_move rfl) rfl ?_
  refine GL.val (rv_lenSl Try.underlying27 rfl) rfl ?_
  refine GL.val (rv_gtr rfl rfl) rfl ?_
  refine GL.nil ?_
  refine GX.then ?_
  refine GC.condP rfl (fun c10 => ?_) (fun c10 => ?_)
  · have c10' : 64 < key.length := by omega
    have hkk := kshort_long c10'
    refine GC.seq ?_
    refine GC.reg ?_
    refine GL.val (rv_move rfl) rfl ?_
    refine GL.step (ot_call hb_79 rfl (callOk fun w hh => rsum_c _ c A key w (hh.rd0n hR) rfl (by omega)) rfl fun _ _ => ?_)
    refine GL.step (ot_alloc (zs := ws8 (List.replicate 32 0)) zb_29 (rfl) rfl fun b5 => ?_)
    refine GL.step (ot_storeA (k := 0) rfl rfl rfl rfl (by exact sz_29) (by (first | (simp only [ws8_len, List.length_replicate, Sh.sum_len]; done))) (by (first | (simp only [ws8_len, List.length_replicate, Sh.sum_len]; done))) (by exact ws8_one _) ?_)
    refine GL.nil ?_
    refine GX.then ?_
    refine GC.reg ?_
    refine GL.val (rv_to (v' := .slice (some ⟨b5, 0, none⟩) (Sh.sum key).length 32) (rv_slA (E := 5) as_29 rfl rfl rfl 0 32 0 rfl rfl (by decide) (by decide) (by decide) rfl) (by rw [Sh.sum_len])) rfl ?_
    refine GL.val (rv_assign rfl) rfl ?_
    refine GL.nil ?_
    refine GX.then ?_
    refine GC.seq ?_
    refine GC.reg ?_
    refine GL.step (ot_make (m := 64) (zs := byts (rkTo (kshort key) t 0)) ei_27 zb_5 rfl rfl rfl (by decide) (by decide) rfl rfl fun b14 => ?_)
    refine GL.val (rv_assign rfl) rfl ?_
    refine GL.nil ?_
    refine GX.then ?_
    refine GC.seq ?_
    refine GC.seq ?_
    refine GC.reg ?_
    refine GL.val (rv_assign rfl) rfl ?_
    refine GL.nil ?_
    refine GX.then ?_
    refine GC.block ?_
    refine GC.loopK (γ := Nat) [6, 1, 0] [1] (fun g Lk => (7, .int .i64 (g : Int)) :: Lk) (fun g Fk => .row (some ⟨b14, 0, none⟩) 64 5 1 64 (byts (rkTo (kshort key) t g)) :: Fk) (fun g => g ≤ 64) (fun g => 64 - g) (0) rfl rfl (Nat.zero_le _) (by repeat (first | exact Sub.nil | refine Sub.cons rfl ?_)) (fun w9 h => by
        exact h) (fun i hi => ?_)
    skip
    refine GC.seq ?_
    refine GC.seq ?_
    refine GC.reg ?_
    refine GL.val (rv_move rfl) rfl ?_
    refine GL.val (rv_lss rfl rfl) rfl ?_
    refine GL.nil ?_
    refine GX.then ?_
    refine GC.condP rfl (fun c16 => ?_) (fun c16 => ?_)
    · have hlt : i < 64 := by omega
      refine GC.skip ?_
      refine GX.then ?_
      refine GC.seq ?_
      refine GC.block ?_
      refine GC.seq ?_
      refine GC.reg ?_
      refine GL.val (rv_move rfl) rfl ?_
      refine GL.val (rv_move rfl) rfl ?_
      refine GL.val (rv_move rfl) rfl ?_
      refine GL.val (rv_elemJ (q := i) i es_27 rfl rfl (by omega) (by omega) (by omega)) rfl ?_
      refine GL.step (ot_storeRow (k := 0) rfl rfl rfl rfl (by exact sz_5) rfl (by (rw [byts_len, rkTo_len]; omega)) rfl ?_)
      refine GL.nil ?_
      refine GX.then ?_
      refine GC.seq ?_
      refine GC.reg ?_
      refine GL.val (rv_move rfl) rfl ?_
      refine GL.val (rv_move rfl) rfl ?_
      refine GL.val (rv_lenSl Try.underlying27 rfl) rfl ?_
      refine GL.val (rv_lss rfl rfl) rfl ?_
      refine GL.nil ?_
      refine GX.then ?_
      refine GC.condP rfl (fun c26 => ?_) (fun c26 => ?_)
      · have hlk : i < (Sh.sum key).length := by omega
        rw [← hkk] at hlk
        refine GC.reg ?_
        refine GL.val (rv_move rfl) rfl ?_
        refine GL.val (rv_move rfl) rfl ?_
        refine GL.val (rv_move rfl) rfl ?_
        refine GL.val (rv_move rfl) rfl ?_
        refine GL.val (rv_elemJ (q := i) i es_27 rfl rfl (by omega) (by omega) (by omega)) rfl ?_
        refine GL.val (rv_load ag_5 rfl (Hd.cell (k := 1) rfl (ws8_get (by omega)))) rfl ?_
        refine GL.val (rv_move rfl) rfl ?_
        refine GL.val (rv_xor8 rfl rfl) rfl ?_
        refine GL.val (rv_elemJ (q := i) i es_27 rfl rfl (by omega) (by omega) (by omega)) rfl ?_
        refine GL.step (ot_storeRow (k := 0) rfl rfl rfl rfl (by exact sz_5) rfl (by (rw [byts_ws, ws8_set, ws8_len, List.length_set, rkTo_len]; omega)) rfl ?_)
        refine GL.nil ?_
        refine GX.blk ?_
        refine GX.then ?_
        refine GC.reg ?_
        refine GL.val (rv_move rfl) rfl ?_
        refine GL.val (rv_add rfl rfl (by omega) (by omega)) rfl ?_
        refine GL.val (rv_assign rfl) rfl ?_
        refine GL.nil ?_
        exact GX.round (i + 1) (by omega) (by omega) (by repeat (first | exact Sub.nil | refine Sub.cons rfl ?_)) (fun w9 h => by
            rw [← rk_in]; simp only [byts_ws, ws8_set, hkk] at h ⊢
            exact h)
      · have hlk : (kshort key).length ≤ i := by rw [hkk]; omega
        refine GC.skip ?_
        refine GX.blk ?_
        refine GX.then ?_
        refine GC.reg ?_
        refine GL.val (rv_move rfl) rfl ?_
        refine GL.val (rv_add rfl rfl (by omega) (by omega)) rfl ?_
        refine GL.val (rv_assign rfl) rfl ?_
        refine GL.nil ?_
        exact GX.round (i + 1) (by omega) (by omega) (by repeat (first | exact Sub.nil | refine Sub.cons rfl ?_)) (fun w9 h => by
            rw [← rk_out t (by omega)]; simp only [byts_ws, ws8_set, hkk] at h ⊢
            exact h)
    · obtain rfl : i = 64 := by omega
      rw [rk_end]
      refine GC.exit ?_
      refine GX.then_exit ?_
      refine GX.then_exit ?_
      refine GX.blk_eq ?_
      refine GX.then ?_
      refine GC.seq ?_
      refine GC.reg ?_
      refine GL.val (rv_move rfl) rfl ?_
      refine GL.val (rv_assign rfl) rfl ?_
      refine GL.nil ?_
      refine GX.then ?_
      refine GC.ret ?_
      refine GX.ret1 rfl (RR.tmp rfl) ?_
      exact fun w9 h => ⟨(some ⟨b14, 0, none⟩, 64), (by simp [xk_len, kb_len]), by
          have h := h.sel [0] rfl rfl
          have h := h.rowRo (k := 0) rfl
          exact h, (by simp [xk_len, kb_len])⟩
  · have hkk := kshort_short (show key.length ≤ 64 by omega)
    refine GC.skip ?_
    refine GX.then ?_
    refine GC.seq ?_
    refine GC.reg ?_
    refine GL.step (ot_make (m := 64) (zs := byts (rkTo (kshort key) t 0)) ei_27 zb_5 rfl rfl rfl (by decide) (by decide) rfl rfl fun b14 => ?_)
    refine GL.val (rv_assign rfl) rfl ?_
    refine GL.nil ?_
    refine GX.then ?_
    refine GC.seq ?_
    refine GC.seq ?_
    refine GC.reg ?_
    refine GL.val (rv_assign rfl) rfl ?_
    refine GL.nil ?_
    refine GX.then ?_
    refine GC.block ?_
    refine GC.loopK (γ := Nat) [6, 1, 0] [] (fun g Lk => (7, .int .i64 (g : Int)) :: Lk) (fun g Fk => .row (some ⟨b14, 0, none⟩) 64 5 1 64 (byts (rkTo (kshort key) t g)) :: Fk) (fun g => g ≤ 64) (fun g => 64 - g) (0) rfl rfl (Nat.zero_le _) (by repeat (first | exact Sub.nil | refine Sub.cons rfl ?_)) (fun w9 h => by
        exact h) (fun i hi => ?_)
    skip
    refine GC.seq ?_
    refine GC.seq ?_
    refine GC.reg ?_
    refine GL.val (rv_move rfl) rfl ?_
    refine GL.val (rv_lss rfl rfl) rfl ?_
    refine GL.nil ?_
    refine GX.then ?_
    refine GC.condP rfl (fun c16 => ?_) (fun c16 => ?_)
    · have hlt : i < 64 := by omega
      refine GC.skip ?_
      refine GX.then ?_
      refine GC.seq ?_
      refine GC.block ?_
      refine GC.seq ?_
      refine GC.reg ?_
      refine GL.val (rv_move rfl) rfl ?_
      refine GL.val (rv_move rfl) rfl ?_
      refine GL.val (rv_move rfl) rfl ?_
      refine GL.val (rv_elemJ (q := i) i es_27 rfl rfl (by omega) (by omega) (by omega)) rfl ?_
      refine GL.step (ot_storeRow (k := 0) rfl rfl rfl rfl (by exact sz_5) rfl (by (rw [byts_len, rkTo_len]; omega)) rfl ?_)
      refine GL.nil ?_
      refine GX.then ?_
      refine GC.seq ?_
      refine GC.reg ?_
      refine GL.val (rv_move rfl) rfl ?_
      refine GL.val (rv_move rfl) rfl ?_
      refine GL.val (rv_lenSl Try.underlying27 rfl) rfl ?_
      refine GL.val (rv_lss rfl rfl) rfl ?_
      refine GL.nil ?_
      refine GX.then ?_
      refine GC.condP rfl (fun c26 => ?_) (fun c26 => ?_)
      · have hlk : i < key.length := by omega
        obtain ⟨b, o, rfl, hC⟩ := HA.resolve_left (by omega)
        refine GC.reg ?_
        refine GL.val (rv_move rfl) rfl ?_
        refine GL.val (rv_move rfl) rfl ?_
        refine GL.val (rv_move rfl) rfl ?_
        refine GL.val (rv_move rfl) rfl ?_
        refine GL.val (rv_elemJ (q := o + i) i es_27 rfl rfl (by omega) (by omega) (by omega)) rfl ?_
        refine GL.val (rv_load ag_5 rfl (Hd.cell0 (bAt hC hlk) (fun h => h))) rfl ?_
        refine GL.val (rv_move rfl) rfl ?_
        refine GL.val (rv_xor8 rfl rfl) rfl ?_
        refine GL.val (rv_elemJ (q := i) i es_27 rfl rfl (by omega) (by omega) (by omega)) rfl ?_
        refine GL.step (ot_storeRow (k := 0) rfl rfl rfl rfl (by exact sz_5) rfl (by (rw [byts_ws, ws8_set, ws8_len, List.length_set, rkTo_len]; omega)) rfl ?_)
        refine GL.nil ?_
        refine GX.blk ?_
        refine GX.then ?_
        refine GC.reg ?_
        refine GL.val (rv_move rfl) rfl ?_
        refine GL.val (rv_add rfl rfl (by omega) (by omega)) rfl ?_
        refine GL.val (rv_assign rfl) rfl ?_
        refine GL.nil ?_
        exact GX.round (i + 1) (by omega) (by omega) (by repeat (first | exact Sub.nil | refine Sub.cons rfl ?_)) (fun w9 h => by
            rw [← rk_in]; simp only [byts_ws, ws8_set, hkk] at h ⊢
            exact h)
      · have hlk : (kshort key).length ≤ i := by rw [hkk]; omega
        refine GC.skip ?_
        refine GX.blk ?_
        refine GX.then ?_
        refine GC.reg ?_
        refine GL.val (rv_move rfl) rfl ?_
        refine GL.val (rv_add rfl rfl (by omega) (by omega)) rfl ?_
        refine GL.val (rv_assign rfl) rfl ?_
        refine GL.nil ?_
        exact GX.round (i + 1) (by omega) (by omega) (by repeat (first | exact Sub.nil | refine Sub.cons rfl ?_)) (fun w9 h => by
            rw [← rk_out t (by omega)]; simp only [byts_ws, ws8_set, hkk] at h ⊢
            exact h)
    · obtain rfl : i = 64 := by omega
      rw [rk_end]
      refine GC.exit ?_
      refine GX.then_exit ?_
      refine GX.then_exit ?_
      refine GX.blk_eq ?_
      refine GX.then ?_
      refine GC.seq ?_
      refine GC.reg ?_
      refine GL.val (rv_move rfl) rfl ?_
      refine GL.val (rv_assign rfl) rfl ?_
      refine GL.nil ?_
      refine GX.then ?_
      refine GC.ret ?_
      refine GX.ret1 rfl (RR.tmp rfl) ?_
      exact fun w9 h => ⟨(some ⟨b14, 0, none⟩, 64), (by simp [xk_len, kb_len]), by
          have h := h.rowRo (k := 0) rfl
          exact h, (by simp [xk_len, kb_len])⟩
end
section
open Go Go.RowKit Go.Bz
theorem hb_81 : hasBody Try.prog 81 = true := by kernel_rfl
/-! the comparison of two byte rows -/
theorem xor0 {m n : Nat} : m ^^^ n = 0 ↔ m = n := by
  constructor
  · intro h
    have e : m ^^^ n ^^^ n = m := by rw [Nat.xor_assoc, Nat.xor_self, Nat.xor_zero]
    rw [h, Nat.zero_xor] at e; exact e.symm
  · rintro rfl; exact Nat.xor_self _
def sx (a b : Sh.B) : Nat → Nat
  | 0 => a.length ^^^ b.length
  | i + 1 => sx a b i ||| (a.getD i 0 ^^^ b.getD i 0).toNat
theorem sx_lt {a b : Sh.B} (ha : a.length < 4611686018427387904) (hb : b.length < 4611686018427387904) : ∀ i, sx a b i < 4611686018427387904
  | 0 => Nat.xor_lt_two_pow (n := 62) ha hb
  | i + 1 => Nat.or_lt_two_pow (n := 62) (sx_lt ha hb i) (by have := UInt8.toNat_lt (a.getD i 0 ^^^ b.getD i 0); omega)
theorem x8_zero (x y : UInt8) : (x ^^^ y).toNat = 0 ↔ x = y := by
  rw [UInt8.toNat_xor, xor0, UInt8.toNat_inj]
theorem sx_iff (a b : Sh.B) : ∀ i, sx a b i = 0 ↔ a.length = b.length ∧ ∀ j, j < i → a.getD j 0 = b.getD j 0
  | 0 => by unfold sx; rw [xor0]; exact ⟨fun h => ⟨h, fun j hj => absurd hj (by omega)⟩, fun h => h.1⟩
  | i + 1 => by
    unfold sx
    rw [Nat.or_eq_zero_iff, sx_iff a b i, x8_zero]
    constructor
    · rintro ⟨⟨h1, h2⟩, h3⟩
      refine ⟨h1, fun j hj => ?_⟩
      rcases Nat.lt_succ_iff_lt_or_eq.1 hj with h | rfl
      · exact h2 j h
      · exact h3
    · rintro ⟨h1, h2⟩
      exact ⟨⟨h1, fun j hj => h2 j (by omega)⟩, h2 i (by omega)⟩
theorem sx_eq (a b : Sh.B) {m : Nat} (hm : a.length ≤ m) : sx a b m = 0 ↔ a = b := by
  rw [sx_iff]
  constructor
  · rintro ⟨h1, h2⟩
    refine List.ext_getElem h1 fun j hj hk => ?_
    have := h2 j (by omega)
    simpa [List.getD_eq_getElem?_getD, List.getElem?_eq_getElem hj, List.getElem?_eq_getElem hk] using this
  · rintro rfl; exact ⟨rfl, fun _ _ => rfl⟩
section
variable {P : Program} {K : Nat → Prop} {w0 : World} {n : Nat} {L : List (Nat × Value)} {Fs : List Pc} {ty t t' : TypeId} {x y : Operand}
theorem rv_c8N {src dst : TypeId} {p : UInt8} (hs : P.underlying src = some (.int .u8)) (hd : P.underlying dst = some (.int .i64)) (e : ev L x = some (v8 p)) : RV P K w0 n L Fs (.convert src dst x) ty (.int .i64 (p.toNat : Int)) :=
  rv_to (rv_convI hs hd e) (by have := UInt8.toNat_lt p; congr 1; exact i64_small (by omega) (by omega))
theorem rv_sx {a b : Sh.B} {i : Nat} (p q : UInt8) (ex : ev L x = some (.int .i64 (sx a b i : Nat))) (ey : ev L y = some (.int .i64 ((p ^^^ q).toNat : Nat))) (hp : p = a.getD i 0) (hq : q = b.getD i 0) (ha : a.length < 4611686018427387904) (hb : b.length < 4611686018427387904) :
    RV P K w0 n L Fs (.binOp .or t x y t') ty (.int .i64 ((sx a b (i + 1) : Nat) : Int)) :=
  rv_to (rv_orN ex ey (by have := sx_lt ha hb i; omega) (by have := UInt8.toNat_lt (p ^^^ q); omega)) (by subst hp hq; rfl)
end
theorem jefe_0 : (mac ([74, 101, 102, 101] : Sh.B) (([119, 104, 97, 116, 32, 100, 111, 32, 121, 97, 32, 119, 97, 110, 116, 32] : Sh.B) ++ ([102, 111, 114, 32, 110, 111, 116, 104, 105, 110, 103, 63] : Sh.B))).getD 0 0 = 91 := by decide +kernel
theorem jefe_1 : (mac ([74, 101, 102, 101] : Sh.B) (([119, 104, 97, 116, 32, 100, 111, 32, 121, 97, 32, 119, 97, 110, 116, 32] : Sh.B) ++ ([102, 111, 114, 32, 110, 111, 116, 104, 105, 110, 103, 63] : Sh.B))).getD 1 0 = 220 := by decide +kernel
theorem jefe_31 : (mac ([74, 101, 102, 101] : Sh.B) (([119, 104, 97, 116, 32, 100, 111, 32, 121, 97, 32, 119, 97, 110, 116, 32] : Sh.B) ++ ([102, 111, 114, 32, 110, 111, 116, 104, 105, 110, 103, 63] : Sh.B))).getD 31 0 = 67 := by decide +kernel
set_option maxRecDepth 100000 in
set_option maxHeartbeats 1000000 in
theorem rmac_c (A : Option Addr) (l c : Nat) (key : Sh.B) (A2 : Option Addr) (n c2 : Nat) (b : Sh.B) (w : World) (hR : SlR w A (byts key)) (hl : key.length = l) (hc : l ≤ c) (hbig : l < 70368744177664) (hR2 : SlR w A2 (byts b)) (hl2 : b.length = n) (hb2 : n ≤ 1099511627000) : Calls Try.prog 71 [.slice A l c, .slice A2 n c2].toArray w fun e w' => ∃ _g : Unit, e = .returned (.agg (ws8 (mac key b)).toArray) ∧ St noB w w' [] ∧ True := by
  refine GC.calls Try.func71 rfl rfl (St.begin _) ?_
  subst hl2
  rw [show mac key b = Sh.sum (xk (kb key) 92 ++ Sh.sum (xk (kb key) 54 ++ b)) from rfl]
  refine GC.seq ?_
  refine GC.reg ?_
  refine GL.step (ot_alloc (zs := ws8 (List.replicate 32 0)) zb_29 (rfl) rfl fun b4 => ?_)
  refine GL.nil ?_
  refine GX.then ?_
  refine GC.seq ?_
  refine GC.reg ?_
  refine GL.val (rv_move rfl) rfl ?_
  refine GL.step (ot_call hb_81 rfl (callOk fun w hh => rkey_c A l c key 54 w (hh.rd0n hR) hl hc hbig) rfl fun g7 _ => ?_)
  refine GL.val (rv_move rfl) rfl ?_
  refine GL.step (ot_buildSlice ei_105 rfl rfl rfl rfl rfl rfl fun b9 => ?_)
  refine GL.step (ot_call hb_80 rfl (callOk fun w hh => join_b (some ⟨b9, 0, none⟩) 2 2 [(xk (kb key) 54, g7), (b, (A2, c2))] (xk (kb key) 54 ++ b) (by simp [cat]) w (slr_cl hh (k := 0) rfl rfl) (al (hh.ro (k := 1) rfl) (al (hh.rd0n hR2) an)) rfl (by decide) (by simp only [List.length_append, xk_len, kb_len]; omega)) rfl fun g10 _ => ?_)
  refine GL.step (ot_call hb_79 rfl (callOk fun w hh => rsum_c _ _ g10.1 (xk (kb key) 54 ++ b) w (hh.ro (k := 0) rfl) rfl (by simp only [List.length_append, xk_len, kb_len]; omega)) rfl fun _ _ => ?_)
  generalize hs1 : Sh.sum (xk (kb key) 54 ++ b) = s1
  have hs1l : s1.length = 32 := by rw [← hs1]; exact Sh.sum_len _
  refine GL.step (ot_alloc (zs := ws8 (List.replicate 32 0)) zb_29 (rfl) rfl fun b5 => ?_)
  refine GL.step (ot_storeA (k := 0) rfl rfl rfl rfl (by exact sz_29) (by (first | (simp only [ws8_len, List.length_replicate, Sh.sum_len]; done) | (simp only [ws8_len, List.length_replicate, Sh.sum_len, hs1l]; done))) (by (first | (simp only [ws8_len, List.length_replicate, Sh.sum_len]; done) | (simp only [ws8_len, List.length_replicate, Sh.sum_len, hs1l]; done))) (by exact ws8_one _) ?_)
  refine GL.nil ?_
  refine GX.then ?_
  refine GC.seq ?_
  refine GC.draw 6 [] mo_ ?_
  refine GD.pure1 (i := 0) rfl (fun _ _ => rv_move rfl) ?_
  refine GD.pure1 (i := 2) rfl (fun _ _ => rv_to (v' := .slice (some ⟨b5, 0, none⟩) s1.length 32) (rv_slA (E := 5) as_29 rfl rfl rfl 0 32 0 rfl rfl (by decide) (by decide) (by decide) rfl) (by rw [hs1l])) ?_
  refine GD.step (i := 1) (by kernel_rfl) rfl (ot_call hb_81 rfl (callOk fun w hh => rkey_c A l c key 92 w (hh.rd0n hR) hl hc hbig) rfl fun g13 _ => ⟨.inr fun _ h => h.pk [], ?_⟩)
  refine GD.step (i := 3) (by kernel_rfl) rfl (ot_buildSlice ei_105 rfl rfl rfl rfl rfl rfl fun b15 => ⟨.inr fun _ h => h.pk [], ?_⟩)
  refine GD.step (i := 4) (by kernel_rfl) rfl (ot_call hb_80 rfl (callOk fun w hh => join_b (some ⟨b15, 0, none⟩) 2 2 [(xk (kb key) 92, g13), (s1, (some ⟨b5, 0, none⟩, 32))] (xk (kb key) 92 ++ s1) (by simp [cat]) w (slr_cl hh (k := 0) rfl rfl) (al (hh.ro (k := 1) rfl) (al (.inr ⟨b5, 0, rfl, by simp only [byts_ws]; exact Hd.cellsAll (k := 2) rfl w hh⟩) an)) rfl (by decide) (by simp only [List.length_append, xk_len, kb_len]; omega)) rfl fun g16 _ => ⟨.inr fun _ h => h.pk [], ?_⟩)
  refine GD.step (i := 5) (by kernel_rfl) rfl (ot_call hb_79 rfl (callOk fun w hh => rsum_c _ _ g16.1 (xk (kb key) 92 ++ s1) w (hh.ro (k := 0) rfl) rfl (by simp only [List.length_append, xk_len, kb_len, hs1l]; omega)) rfl fun _ _ => ⟨.inr fun _ h => h.pk [], ?_⟩)
  refine GD.step (i := 6) (by kernel_rfl) rfl (ot_storeA (k := 7) rfl rfl rfl rfl (by exact sz_29) (by (first | (simp only [ws8_len, List.length_replicate, Sh.sum_len]; done) | (simp only [ws8_len, List.length_replicate, Sh.sum_len, hs1l]; done))) (by (first | (simp only [ws8_len, List.length_replicate, Sh.sum_len]; done) | (simp only [ws8_len, List.length_replicate, Sh.sum_len, hs1l]; done))) (by exact ws8_one _) ⟨.inl rfl, ?_⟩)
  refine GD.done (by kernel_rfl) ?_
  refine GX.then ?_
  refine GC.ret ?_
  refine GX.ret1 rfl (RR.cellL ag_29 rfl (by exact Hd.cellsAll (k := 7) rfl) (by exact sz_29) (by (first | (simp only [ws8_len, List.length_replicate, Sh.sum_len]; done) | (simp only [ws8_len, List.length_replicate, Sh.sum_len, hs1l]; done)))) ?_
  exact fun w9 h => ⟨(), rfl, by
      have h := h.sel [] rfl rfl
      exact h, trivial⟩
end
section
open Go Go.RowKit Go.Bz

section
variable {X : Cx} {L : List (Nat × Value)} {Fs : List Pc} {C : List (Nat × Value) → List Pc → Prop} {ty : TypeId} {pos : String} {af : Array Edge} {g : Option (Nat × Bool)}
/-- a slice of noughts -/
theorem ot_makeC {d t E by_ m : Nat} {xl xc : Operand} {z : Value} {zs : List Value} (hE : elemInfo X.P t = some (E, 1, by_)) (hz0 : zeroB X.P E = some z) (hzc : z.cells = #[z]) (el : ev L xl = some (.int .i64 (m : Int))) (ec : ev L xc = some (.int .i64 (m : Int))) (hm : m * by_ ≤ 1048576) (hm2 : m ≤ 1048576)
    (hzs : List.replicate m z = zs) (hd : Nat.ble (d + 1) X.n = true)
    (h : ∀ b, C ((d, .slice (some ⟨b, 0, none⟩) m m) :: L) (Pc.cl b zs E :: Fs)) : OT X ⟨some d, .makeSlice t xl xc, ty, pos, af, g⟩ L Fs C :=
  ot_eff (γ := Nat) (Φ := fun _ => True) (v := fun b => .slice (some ⟨b, 0, none⟩) m m) (H := fun b => Pc.cl b zs E :: Fs) (fun w a hs hf => by
    obtain ⟨inf, z', hu, hi, hz, hsz, hby', hzs', hpos⟩ := elemInfo_spec hE
    have hzz : z' = z := by
      unfold zeroB at hz0; rw [hi] at hz0; simp [hz] at hz0; exact hz0
    subst hzz hzs
    refine ⟨w.heap.size, w.alloc (.cells (List.replicate m z').toArray E), ?_, ?_, trivial⟩
    · have hwr : IntKind.i64.wrap (m : Int) = m := i64_small (by omega) (by omega)
      have hbm : ¬ ((inf.bytes : Int) * (m : Int) > 2 ^ 48) := by
        rw [hby']
        have h1 : ((by_ * m : Nat) : Int) ≤ 1048576 := by rw [Nat.mul_comm]; omega
        rw [Int.natCast_mul] at h1
        have h2 : (2 : Int) ^ 48 = 281474976710656 := by decide
        rw [h2]
        omega
      have hroom : ¬ (m * inf.bytes > roomBytes) := by
        rw [hby']; unfold roomBytes; omega
      have hcells : (Array.range m).map (z'.cells[· % z'.cells.size]!) = (List.replicate m z').toArray := by
        apply Array.ext
        · simp
        · intro i h1 h2
          simp [hzc, Nat.mod_one]
      have hzr := run_zero (P := X.P) hz0 w
      simp only [execOp, hf.ev el, hf.ev ec]
      have hrow : ∀ (cells : Array Value) (w : World), (newRow E cells).run X.P w = .ok ⟨w.heap.size, 0, none⟩ (w.alloc (.cells cells E)) := fun _ _ => rfl
      have hwr0 : IntKind.i64.wrap 0 = 0 := by decide
      have hnl : ¬ ((m : Int) < 0) := by omega
      have hbm' : ¬ (281474976710656 < (inf.bytes : Int) * (m : Int)) := by
        have h2 : (2 : Int) ^ 48 = 281474976710656 := by decide
        rw [h2] at hbm; omega
      by_cases h0 : m = 0
      · subst h0
        simp [Instr.makeSlice, run_underlying hu, asInt, asIntOf, typeInfo, hi, hwr0, Bz.run_sizeOf hi, hsz, askRoom, hroom, hrow, go_sem]
      · simp [Instr.makeSlice, run_underlying hu, asInt, asIntOf, typeInfo, hi, hwr, hbm', hnl, Bz.run_sizeOf hi, hsz, askRoom, hroom, h0, hzr, hrow, hcells, go_sem]
        exact congrArg (fun q => w.alloc (.cells q E)) (hcells.trans (by simp))
    · exact hs.alloc (List.replicate m z') E) hd fun b _ => h b
end
theorem mac_b (A : Option Addr) (l c : Nat) (key : Sh.B) (A2 : Option Addr) (n c2 : Nat) (ps : List Sp) (bs : Sh.B) (hbs : cat ps = bs) (w : World) (hR : SlR w A (byts key)) (hl : key.length = l) (hc : l ≤ c) (hbig : l < 70368744177664) (hR2 : SlR w A2 (sls ps)) (hP : ∀ q ∈ ps, SlR w q.2.1 (byts q.1)) (hPc : ∀ q ∈ ps, q.1.length ≤ q.2.2) (hn : ps.length = n) (hnb : n ≤ 1099511627776) (hpb : bs.length ≤ 1099511627776) : Calls Try.prog 67 [.slice A l c, .slice A2 n c2].toArray w fun e w' => ∃ _g : Unit, e = .returned (.agg (ws8 (mac key bs)).toArray) ∧ St noB w w' [] ∧ True := by
  subst hbs; exact mac_c A l c key A2 n c2 ps w hR hl hc hbig hR2 hP hPc hn hnb hpb
theorem mac_sum {key : Sh.B} (h : 64 < key.length) (b : Sh.B) : mac (Sh.sum key) b = mac key b := by
  have e : kb (Sh.sum key) = kb key := by unfold kb; rw [kshort_long h, kshort_short (by rw [Sh.sum_len]; omega)]
  unfold mac; rw [e]
theorem mac_pad {key : Sh.B} {m : Nat} (h : key.length + m ≤ 64) (b : Sh.B) : mac (key ++ List.replicate m 0) b = mac key b := by
  have e : kb (key ++ List.replicate m 0) = kb key := by
    unfold kb
    rw [kshort_short (by simp; omega), kshort_short (by omega)]
    unfold kpad
    rw [List.append_assoc, List.replicate_append_replicate]
    congr 2
    simp; omega
  unfold mac; rw [e]
theorem cp_pad {key : Sh.B} {m : Nat} (h : key.length ≤ m) : repl (byts (List.replicate m 0)) 0 (byts key) = ws8 (key ++ List.replicate (m - key.length) 0) := by
  rw [repl_eq _ _ _ (by simp [byts]; omega), byts_ws, byts_ws, ws8_app, ws8_drop, Nat.zero_add, List.drop_replicate, ws8_len]; simp [ws8]
end
section
open Go Go.RowKit Go.Bz

theorem u8_of {z : Int} (h : (Lit.int .u8 z).wf = true) : Value.int .u8 z = v8 (UInt8.ofNat z.toNat) := by
  have hm : IntKind.u8.min = 0 := by decide
  have hM : IntKind.u8.max = 255 := by decide
  have h0 : 0 ≤ z ∧ z ≤ 255 := by simpa [Lit.wf, hm, hM] using h
  show Value.int .u8 z = .int .u8 ((UInt8.ofNat z.toNat).toNat : Int)
  rw [UInt8.toNat_ofNat', Nat.mod_eq_of_lt (by omega)]
  congr 1; omega
end
section
open Go Go.RowKit Go.Bz
theorem hb_67 : hasBody Try.prog 67 = true := by kernel_rfl
theorem hb_68 : hasBody Try.prog 68 = true := by kernel_rfl
theorem hb_69 : hasBody Try.prog 69 = true := by kernel_rfl
theorem hb_71 : hasBody Try.prog 71 = true := by kernel_rfl
theorem hb_72 : hasBody Try.prog 72 = true := by kernel_rfl
theorem hb_73 : hasBody Try.prog 73 = true := by kernel_rfl
def uz (z : Int) : UInt64 := UInt64.ofNat (z % 18446744073709551616).toNat
theorem v64_of (z : Int) : Value.int .u64 (IntKind.u64.wrap z) = v64 (uz z) := by
  show Value.int .u64 (IntKind.u64.wrap z) = .int .u64 ((uz z).toNat : Int)
  unfold uz
  rw [Bz.wrap64, UInt64.toNat_ofNat', Nat.mod_eq_of_lt (by omega)]
  congr 1; omega
set_option maxRecDepth 100000 in
set_option maxHeartbeats 1000000 in
theorem auth_c (A1 : Option Addr) (n1 c1 : Nat) (key : Sh.B) (nm : ByteArray) (ser : UInt64) (A2 : Option Addr) (n2 c2 : Nat) (key2 : Sh.B) (w : World) (hR1 : SlR w A1 (byts key)) (hl1 : key.length = n1) (hc1 : n1 ≤ c1) (hR2 : SlR w A2 (byts key2)) (hl2 : key2.length = n2) (hc2 : n2 ≤ c2) (hk1 : n1 ≤ 1000000) (hk2 : n2 ≤ 1000000) (hnl : nm.size ≤ 1000000) : Calls Try.prog 62 [.slice A1 n1 c1, .string nm, v64 ser, .slice A2 n2 c2].toArray w fun e w' => ∃ _g : Unit, e = .returned (.agg (ws8 (mac key (65 :: (num (UInt64.ofNat nm.size) ++ (nm.data.toList ++ (num ser ++ key2)))))).toArray) ∧ St noB w w' [] ∧ True := by
  refine GC.calls Try.func62 rfl rfl (St.begin _) ?_
  subst hl1 hl2
  refine GC.seq ?_
  refine GC.reg ?_
  refine GL.step (ot_alloc (zs := ws8 (List.replicate 32 0)) zb_29 (rfl) rfl fun b8 => ?_)
  refine GL.nil ?_
  refine GX.then ?_
  refine GC.seq ?_
  refine GC.reg ?_
  refine GL.val (rv_move rfl) rfl ?_
  refine GL.val (rv_move rfl) rfl ?_
  refine GL.val (rv_lenS Try.underlying9 rfl) rfl ?_
  refine GL.val (rv_conv64I (nm.size) Try.underlying3 Try.underlying24 rfl (by rfl)) rfl ?_
  refine GL.step (ot_call hb_69 rfl (callOk fun w hh => number_b (UInt64.ofNat nm.size) w) rfl fun g13 _ => ?_)
  refine GL.val (rv_move rfl) rfl ?_
  refine GL.step (ot_convSB (us := byts nm.data.toList) Try.underlying9 Try.underlying27 Try.underlying5 rfl rfl rfl fun b15 c15 => ?_)
  refine GL.val (rv_move rfl) rfl ?_
  refine GL.step (ot_call hb_69 rfl (callOk fun w hh => number_b (ser) w) rfl fun g17 _ => ?_)
  refine GL.val (rv_move rfl) rfl ?_
  refine GL.step (ot_buildSlice ei_105 rfl rfl rfl rfl rfl rfl fun b19 => ?_)
  refine GL.step (ot_call hb_68 rfl (callOk fun w hh => begin_b 65 (some ⟨b19, 0, none⟩) 4 4 [(num (UInt64.ofNat nm.size), g13), (nm.data.toList, (some ⟨b15, 0, none⟩, c15)), (num ser, g17), (key2, (A2, c2))] (65 :: (num (UInt64.ofNat nm.size) ++ (nm.data.toList ++ (num ser ++ key2)))) (by simp [cat]) w (slr_cl hh (k := 0) rfl rfl) (al (hh.ro (k := 3) rfl) (al (hh.ro (k := 2) rfl) (al (hh.ro (k := 1) rfl) (al (hh.rd0n hR2) an)))) rfl (by decide) (by have e : nm.data.toList.length = nm.size := rfl; simp only [List.length_cons, List.length_append, num_len, e]; omega)) rfl fun g20 h20 => ?_)
  have hq : (65 :: (num (UInt64.ofNat nm.size) ++ (nm.data.toList ++ (num ser ++ key2)))).length ≤ 1099511627000 := (by have e : nm.data.toList.length = nm.size := rfl; simp only [List.length_cons, List.length_append, num_len, e]; omega)
  generalize 65 :: (num (UInt64.ofNat nm.size) ++ (nm.data.toList ++ (num ser ++ key2))) = q at hq h20 ⊢
  refine GL.step (ot_buildSlice ei_105 rfl rfl rfl rfl rfl rfl fun b21 => ?_)
  refine GL.step (ot_call hb_67 rfl (callOk fun w hh => mac_b A1 _ c1 key (some ⟨b21, 0, none⟩) 1 1 [(q, g20)] (q) (by simp [cat]) w (hh.rd0n hR1) rfl hc1 (by omega) (slr_cl hh (k := 0) rfl rfl) (al (hh.ro (k := 1) rfl) an) (al h20 an) rfl (by decide) (by omega)) rfl fun _ _ => ?_)
  have hml := mac_len key q
  generalize mac key q = m1 at hml ⊢
  refine GL.step (ot_storeA (k := 6) rfl rfl rfl rfl (by exact sz_29) (by (first | (simp only [ws8_len, hml]; done) | (simp only [ws8_len, List.length_replicate, mac_len, Sh.sum_len] ; done) | (simp only [ws8_len, List.length_replicate, mac_len, Sh.sum_len]; done))) (by (first | (simp only [ws8_len, hml]; done) | (simp only [ws8_len, List.length_replicate, mac_len, Sh.sum_len] ; done) | (simp only [ws8_len, List.length_replicate, mac_len, Sh.sum_len]; done))) (by exact ws8_one _) ?_)
  refine GL.nil ?_
  refine GX.then ?_
  refine GC.ret ?_
  refine GX.ret1 rfl (RR.cellL ag_29 rfl (by exact Hd.cellsAll (k := 6) rfl) (by exact sz_29) (by (first | (simp only [ws8_len, hml]; done) | (simp only [ws8_len, List.length_replicate, mac_len, Sh.sum_len] ; done) | (simp only [ws8_len, List.length_replicate, mac_len, Sh.sum_len]; done)))) ?_
  exact fun w9 h => ⟨(), rfl, by
      have h := h.sel [] rfl rfl
      exact h, trivial⟩
set_option maxRecDepth 100000 in
set_option maxHeartbeats 1000000 in
theorem rauth_c (A1 : Option Addr) (n1 c1 : Nat) (key : Sh.B) (nm : ByteArray) (ser : UInt64) (A2 : Option Addr) (n2 c2 : Nat) (key2 : Sh.B) (w : World) (hR1 : SlR w A1 (byts key)) (hl1 : key.length = n1) (hc1 : n1 ≤ c1) (hR2 : SlR w A2 (byts key2)) (hl2 : key2.length = n2) (hc2 : n2 ≤ c2) (hk1 : n1 ≤ 1000000) (hk2 : n2 ≤ 1000000) (hnl : nm.size ≤ 1000000) : Calls Try.prog 65 [.slice A1 n1 c1, .string nm, v64 ser, .slice A2 n2 c2].toArray w fun e w' => ∃ _g : Unit, e = .returned (.agg (ws8 (mac key (65 :: (num (UInt64.ofNat nm.size) ++ (nm.data.toList ++ (num ser ++ key2)))))).toArray) ∧ St noB w w' [] ∧ True := by
  refine GC.calls Try.func65 rfl rfl (St.begin _) ?_
  subst hl1 hl2
  refine GC.seq ?_
  refine GC.reg ?_
  refine GL.step (ot_alloc (zs := ws8 (List.replicate 32 0)) zb_29 (rfl) rfl fun b8 => ?_)
  refine GL.nil ?_
  refine GX.then ?_
  refine GC.seq ?_
  refine GC.reg ?_
  refine GL.val (rv_move rfl) rfl ?_
  refine GL.val (rv_move rfl) rfl ?_
  refine GL.val (rv_lenS Try.underlying9 rfl) rfl ?_
  refine GL.val (rv_conv64I (nm.size) Try.underlying3 Try.underlying24 rfl (by rfl)) rfl ?_
  refine GL.step (ot_call hb_73 rfl (callOk fun w hh => rnumber_b (UInt64.ofNat nm.size) w) rfl fun g13 _ => ?_)
  refine GL.val (rv_move rfl) rfl ?_
  refine GL.step (ot_convSB (us := byts nm.data.toList) Try.underlying9 Try.underlying27 Try.underlying5 rfl rfl rfl fun b15 c15 => ?_)
  refine GL.val (rv_move rfl) rfl ?_
  refine GL.step (ot_call hb_73 rfl (callOk fun w hh => rnumber_b (ser) w) rfl fun g17 _ => ?_)
  refine GL.val (rv_move rfl) rfl ?_
  refine GL.step (ot_buildSlice ei_105 rfl rfl rfl rfl rfl rfl fun b19 => ?_)
  refine GL.step (ot_call hb_72 rfl (callOk fun w hh => sign_c 65 (some ⟨b19, 0, none⟩) 4 4 [(num (UInt64.ofNat nm.size), g13), (nm.data.toList, (some ⟨b15, 0, none⟩, c15)), (num ser, g17), (key2, (A2, c2))] (65 :: (num (UInt64.ofNat nm.size) ++ (nm.data.toList ++ (num ser ++ key2)))) (by simp [cat]) w (slr_cl hh (k := 0) rfl rfl) (al (hh.ro (k := 3) rfl) (al (hh.ro (k := 2) rfl) (al (hh.ro (k := 1) rfl) (al (hh.rd0n hR2) an)))) rfl (by decide) (by have e : nm.data.toList.length = nm.size := rfl; simp only [List.length_cons, List.length_append, num_len, e]; omega)) rfl fun g20 h20 => ?_)
  have hq : (65 :: (num (UInt64.ofNat nm.size) ++ (nm.data.toList ++ (num ser ++ key2)))).length ≤ 1099511627000 := (by have e : nm.data.toList.length = nm.size := rfl; simp only [List.length_cons, List.length_append, num_len, e]; omega)
  generalize 65 :: (num (UInt64.ofNat nm.size) ++ (nm.data.toList ++ (num ser ++ key2))) = q at hq h20 ⊢
  refine GL.step (ot_call hb_71 rfl (callOk fun w hh => rmac_c A1 _ c1 key g20.1 _ g20.2 (q) w (hh.rd0n hR1) rfl hc1 (by omega) (hh.ro (k := 0) rfl) rfl (by omega)) rfl fun _ _ => ?_)
  have hml := mac_len key q
  generalize mac key q = m1 at hml ⊢
  refine GL.step (ot_storeA (k := 5) rfl rfl rfl rfl (by exact sz_29) (by (first | (simp only [ws8_len, hml]; done) | (simp only [ws8_len, List.length_replicate, mac_len, Sh.sum_len] ; done) | (simp only [ws8_len, List.length_replicate, mac_len, Sh.sum_len]; done))) (by (first | (simp only [ws8_len, hml]; done) | (simp only [ws8_len, List.length_replicate, mac_len, Sh.sum_len] ; done) | (simp only [ws8_len, List.length_replicate, mac_len, Sh.sum_len]; done))) (by exact ws8_one _) ?_)
  refine GL.nil ?_
  refine GX.then ?_
  refine GC.ret ?_
  refine GX.ret1 rfl (RR.cellL ag_29 rfl (by exact Hd.cellsAll (k := 5) rfl) (by exact sz_29) (by (first | (simp only [ws8_len, hml]; done) | (simp only [ws8_len, List.length_replicate, mac_len, Sh.sum_len] ; done) | (simp only [ws8_len, List.length_replicate, mac_len, Sh.sum_len]; done)))) ?_
  exact fun w9 h => ⟨(), rfl, by
      have h := h.sel [] rfl rfl
      exact h, trivial⟩
end
end Go.Proofs.Ytkifeeiafachpaa
