import Derived.Test.YtiiofagddljgdaaP
set_option linter.unusedVariables false
set_option linter.unusedSimpArgs false
namespace Go.Proofs.Ytiiofagddljgdaa
open Go Go.RowKit Go.Bz
theorem hb_31 : hasBody Try.prog 31 = true := by kernel_rfl
/-! the comparison of two byte rows -/
theorem xor0 {m n : Nat} : m ^^^ n = 0 ↔ m = n := by
  constructor
  · intro h
    have e : m ^^^ n ^^^ n = m := by rw [Nat.xor_assoc, Nat.xor_self, Nat.xor_zero]
    rw [h, Nat.zero_xor] at e; exact e.symm
  · rintro rfl; exact Nat.xor_self _
def sx (a b : Sh.B) : Nat → Nat
  | 0 => a.length ^^^ b.length
  | i + 1 => sx a b i ||| (a.getD i 0 ^^^ b.getD i 0).toNat
theorem sx_lt {a b : Sh.B} (ha : a.length < 4611686018427387904) (hb : b.length < 4611686018427387904) : ∀ i, sx a b i < 4611686018427387904
  | 0 => Nat.xor_lt_two_pow (n := 62) ha hb
  | i + 1 => Nat.or_lt_two_pow (n := 62) (sx_lt ha hb i) (by have := UInt8.toNat_lt (a.getD i 0 ^^^ b.getD i 0); omega)
theorem x8_zero (x y : UInt8) : (x ^^^ y).toNat = 0 ↔ x = y := by
  rw [UInt8.toNat_xor, xor0, UInt8.toNat_inj]
theorem sx_iff (a b : Sh.B) : ∀ i, sx a b i = 0 ↔ a.length = b.length ∧ ∀ j, j < i → a.getD j 0 = b.getD j 0
  | 0 => by unfold sx; rw [xor0]; exact ⟨fun h => ⟨h, fun j hj => absurd hj (by omega)⟩, fun h => h.1⟩
  | i + 1 => by
    unfold sx
    rw [Nat.or_eq_zero_iff, sx_iff a b i, x8_zero]
    constructor
    · rintro ⟨⟨h1, h2⟩, h3⟩
      refine ⟨h1, fun j hj => ?_⟩
      rcases Nat.lt_succ_iff_lt_or_eq.1 hj with h | rfl
      · exact h2 j h
      · exact h3
    · rintro ⟨h1, h2⟩
      exact ⟨⟨h1, fun j hj => h2 j (by omega)⟩, h2 i (by omega)⟩
theorem sx_eq (a b : Sh.B) {m : Nat} (hm : a.length ≤ m) : sx a b m = 0 ↔ a = b := by
  rw [sx_iff]
  constructor
  · rintro ⟨h1, h2⟩
    refine List.ext_getElem h1 fun j hj hk => ?_
    have := h2 j (by omega)
    simpa [List.getD_eq_getElem?_getD, List.getElem?_eq_getElem hj, List.getElem?_eq_getElem hk] using this
  · rintro rfl; exact ⟨rfl, fun _ _ => rfl⟩
section
variable {P : Program} {K : Nat → Prop} {w0 : World} {n : Nat} {L : List (Nat × Value)} {Fs : List Pc} {ty t t' : TypeId} {x y : Operand}
theorem rv_c8N {src dst : TypeId} {p : UInt8} (hs : P.underlying src = some (.int .u8)) (hd : P.underlying dst = some (.int .i64)) (e : ev L x = some (v8 p)) : RV P K w0 n L Fs (.convert src dst x) ty (.int .i64 (p.toNat : Int)) :=
  rv_to (rv_convI hs hd e) (by have := UInt8.toNat_lt p; congr 1; exact i64_small (by omega) (by omega))
theorem rv_sx {a b : Sh.B} {i : Nat} (p q : UInt8) (ex : ev L x = some (.int .i64 (sx a b i : Nat))) (ey : ev L y = some (.int .i64 ((p ^^^ q).toNat : Nat))) (hp : p = a.getD i 0) (hq : q = b.getD i 0) (ha : a.length < 4611686018427387904) (hb : b.length < 4611686018427387904) :
    RV P K w0 n L Fs (.binOp .or t x y t') ty (.int .i64 ((sx a b (i + 1) : Nat) : Int)) :=
  rv_to (rv_orN ex ey (by have := sx_lt ha hb i; omega) (by have := UInt8.toNat_lt (p ^^^ q); omega)) (by subst hp hq; rfl)
end
theorem jefe_0 : (mac ([74, 101, 102, 101] : Sh.B) (([119, 104, 97, 116, 32, 100, 111, 32, 121, 97, 32, 119, 97, 110, 116, 32] : Sh.B) ++ ([102, 111, 114, 32, 110, 111, 116, 104, 105, 110, 103, 63] : Sh.B))).getD 0 0 = 91 := by decide +kernel
theorem jefe_1 : (mac ([74, 101, 102, 101] : Sh.B) (([119, 104, 97, 116, 32, 100, 111, 32, 121, 97, 32, 119, 97, 110, 116, 32] : Sh.B) ++ ([102, 111, 114, 32, 110, 111, 116, 104, 105, 110, 103, 63] : Sh.B))).getD 1 0 = 220 := by decide +kernel
theorem jefe_31 : (mac ([74, 101, 102, 101] : Sh.B) (([119, 104, 97, 116, 32, 100, 111, 32, 121, 97, 32, 119, 97, 110, 116, 32] : Sh.B) ++ ([102, 111, 114, 32, 110, 111, 116, 104, 105, 110, 103, 63] : Sh.B))).getD 31 0 = 67 := by decide +kernel
set_option maxRecDepth 100000 in
set_option maxHeartbeats 1000000 in
theorem rmac_c (A : Option Addr) (l c : Nat) (key : Sh.B) (A2 : Option Addr) (n c2 : Nat) (b : Sh.B) (w : World) (hR : SlR w A (byts key)) (hl : key.length = l) (hc : l ≤ c) (hbig : l < 70368744177664) (hR2 : SlR w A2 (byts b)) (hl2 : b.length = n) (hb2 : n ≤ 1099511627000) : Calls Try.prog 22 [.slice A l c, .slice A2 n c2].toArray w fun e w' => ∃ _g : Unit, e = .returned (.agg (ws8 (mac key b)).toArray) ∧ St noB w w' [] ∧ True := by
  refine GC.calls Try.func22 rfl rfl (St.begin _) ?_
  subst hl2
  rw [show mac key b = Sh.sum (xk (kb key) 92 ++ Sh.sum (xk (kb key) 54 ++ b)) from rfl]
  refine GC.seq ?_
  refine GC.reg ?_
  refine GL.step (ot_alloc (zs := ws8 (List.replicate 32 0)) zb_27 (rfl) rfl fun b4 => ?_)
  refine GL.nil ?_
  refine GX.then ?_
  refine GC.seq ?_
  refine GC.reg ?_
  refine GL.val (rv_move rfl) rfl ?_
  refine GL.step (ot_call hb_31 rfl (callOk fun w hh => rkey_c A l c key 54 w (hh.rd0n hR) hl hc hbig) rfl fun g7 _ => ?_)
  refine GL.val (rv_move rfl) rfl ?_
  refine GL.step (ot_buildSlice ei_49 rfl rfl rfl rfl rfl rfl fun b9 => ?_)
  refine GL.step (ot_call hb_30 rfl (callOk fun w hh => join_b (some ⟨b9, 0, none⟩) 2 2 [(xk (kb key) 54, g7), (b, (A2, c2))] (xk (kb key) 54 ++ b) (by simp [cat]) w (slr_cl hh (k := 0) rfl rfl) (al (hh.ro (k := 1) rfl) (al (hh.rd0n hR2) an)) rfl (by decide) (by simp only [List.length_append, xk_len, kb_len]; omega)) rfl fun g10 _ => ?_)
  refine GL.step (ot_call hb_29 rfl (callOk fun w hh => rsum_c _ _ g10.1 (xk (kb key) 54 ++ b) w (hh.ro (k := 0) rfl) rfl (by simp only [List.length_append, xk_len, kb_len]; omega)) rfl fun _ _ => ?_)
  generalize hs1 : Sh.sum (xk (kb key) 54 ++ b) = s1
  have hs1l : s1.length = 32 := by rw [← hs1]; exact Sh.sum_len _
  refine GL.step (ot_alloc (zs := ws8 (List.replicate 32 0)) zb_27 (rfl) rfl fun b5 => ?_)
  refine GL.step (ot_storeA (k := 0) rfl rfl rfl rfl (by exact sz_27) (by first | (first | (simp only [ws8_len, List.length_replicate, Sh.sum_len]; done) | (simp only [ws8_len, List.length_replicate, Sh.sum_len, hs1l]; done)) | rfl) (by first | (first | (simp only [ws8_len, List.length_replicate, Sh.sum_len]; done) | (simp only [ws8_len, List.length_replicate, Sh.sum_len, hs1l]; done)) | rfl) (by first | exact ws8_one _ | rfl) ?_)
  refine GL.nil ?_
  refine GX.then ?_
  refine GC.seq ?_
  refine GC.draw 6 [] mo_ ?_
  refine GD.pure (i := 0) rfl (fun _ _ => rv_move rfl) (by kernel_rfl) (by repeat (first | exact noPanicPut_body | exact noPanicPut_cut | exact noPanicPut_cutE | refine noPanicPut_then ?_ | refine noPanicPut_blk ?_)) ?_
  refine GD.pure (i := 2) rfl (fun _ _ => rv_to (v' := .slice (some ⟨b5, 0, none⟩) s1.length 32) (rv_slA (E := 5) as_27 rfl rfl rfl 0 32 0 rfl rfl (by decide) (by decide) (by decide) rfl) (by rw [hs1l])) (by kernel_rfl) (by repeat (first | exact noPanicPut_body | exact noPanicPut_cut | exact noPanicPut_cutE | refine noPanicPut_then ?_ | refine noPanicPut_blk ?_)) ?_
  refine GD.step (i := 1) (by kernel_rfl) rfl (ot_call hb_31 rfl (callOk fun w hh => rkey_c A l c key 92 w (hh.rd0n hR) hl hc hbig) rfl fun g13 _ => ⟨.inr fun _ h => h.pk [], ?_⟩)
  refine GD.step (i := 3) (by kernel_rfl) rfl (ot_buildSlice ei_49 rfl rfl rfl rfl rfl rfl fun b15 => ⟨.inr fun _ h => h.pk [], ?_⟩)
  refine GD.step (i := 4) (by kernel_rfl) rfl (ot_call hb_30 rfl (callOk fun w hh => join_b (some ⟨b15, 0, none⟩) 2 2 [(xk (kb key) 92, g13), (s1, (some ⟨b5, 0, none⟩, 32))] (xk (kb key) 92 ++ s1) (by simp [cat]) w (slr_cl hh (k := 0) rfl rfl) (al (hh.ro (k := 1) rfl) (al (.inr ⟨b5, 0, rfl, by simp only [byts_ws]; exact Hd.cellsAll (k := 2) rfl w hh⟩) an)) rfl (by decide) (by simp only [List.length_append, xk_len, kb_len]; omega)) rfl fun g16 _ => ⟨.inr fun _ h => h.pk [], ?_⟩)
  refine GD.step (i := 5) (by kernel_rfl) rfl (ot_call hb_29 rfl (callOk fun w hh => rsum_c _ _ g16.1 (xk (kb key) 92 ++ s1) w (hh.ro (k := 0) rfl) rfl (by simp only [List.length_append, xk_len, kb_len, hs1l]; omega)) rfl fun _ _ => ⟨.inr fun _ h => h.pk [], ?_⟩)
  refine GD.step (i := 6) (by kernel_rfl) rfl (ot_storeA (k := 7) rfl rfl rfl rfl (by exact sz_27) (by first | (first | (simp only [ws8_len, List.length_replicate, Sh.sum_len]; done) | (simp only [ws8_len, List.length_replicate, Sh.sum_len, hs1l]; done)) | rfl) (by first | (first | (simp only [ws8_len, List.length_replicate, Sh.sum_len]; done) | (simp only [ws8_len, List.length_replicate, Sh.sum_len, hs1l]; done)) | rfl) (by first | exact ws8_one _ | rfl) ⟨.inl rfl, ?_⟩)
  refine GD.done (by kernel_rfl) ?_
  refine GX.then ?_
  refine GC.ret ?_
  refine GX.ret1 rfl (RR.cellL ag_27 rfl (by first | exact Hd.cellsAll (k := 7) rfl | exact Hd.cells (k := 7) rfl rfl) (by exact sz_27) (by first | (first | (simp only [ws8_len, List.length_replicate, Sh.sum_len]; done) | (simp only [ws8_len, List.length_replicate, Sh.sum_len, hs1l]; done)) | rfl)) ?_
  exact fun w9 h => ⟨(), rfl, by
      have h := h.sel [] rfl rfl
      exact h, trivial⟩
end Go.Proofs.Ytiiofagddljgdaa
