import Derived.Test.YtiiofagddljgdaaM
set_option linter.unusedVariables false
set_option linter.unusedSimpArgs false
namespace Go.Proofs.Ytiiofagddljgdaa
open Go Go.RowKit Go.Bz
theorem ag_67 : aggB Try.prog 67 = some true := by kernel_rfl
theorem hb_33 : hasBody Try.prog 33 = true := by kernel_rfl
theorem hb_39 : hasBody Try.prog 39 = true := by kernel_rfl
theorem hb_40 : hasBody Try.prog 40 = true := by kernel_rfl
theorem hb_48 : hasBody Try.prog 48 = true := by kernel_rfl
theorem sz_67 : (Try.prog.info? 67).map (·.size) = some 64 := by kernel_rfl
theorem zb_67 : zeroB Try.prog 67 = some (.agg #[.int .u8 0, .int .u8 0, .int .u8 0, .int .u8 0, .int .u8 0, .int .u8 0, .int .u8 0, .int .u8 0, .int .u8 0, .int .u8 0, .int .u8 0, .int .u8 0, .int .u8 0, .int .u8 0, .int .u8 0, .int .u8 0, .int .u8 0, .int .u8 0, .int .u8 0, .int .u8 0, .int .u8 0, .int .u8 0, .int .u8 0, .int .u8 0, .int .u8 0, .int .u8 0, .int .u8 0, .int .u8 0, .int .u8 0, .int .u8 0, .int .u8 0, .int .u8 0, .int .u8 0, .int .u8 0, .int .u8 0, .int .u8 0, .int .u8 0, .int .u8 0, .int .u8 0, .int .u8 0, .int .u8 0, .int .u8 0, .int .u8 0, .int .u8 0, .int .u8 0, .int .u8 0, .int .u8 0, .int .u8 0, .int .u8 0, .int .u8 0, .int .u8 0, .int .u8 0, .int .u8 0, .int .u8 0, .int .u8 0, .int .u8 0, .int .u8 0, .int .u8 0, .int .u8 0, .int .u8 0, .int .u8 0, .int .u8 0, .int .u8 0, .int .u8 0]) := by kernel_rfl
/-! keyed digests, plain -/
def kshort (key : Sh.B) : Sh.B := if 64 < key.length then Sh.sum key else key
theorem kshort_len (key : Sh.B) : (kshort key).length ≤ 64 := by
  unfold kshort; split
  · rw [Sh.sum_len]; omega
  · omega
def kpad (k : Sh.B) : Sh.B := k ++ List.replicate (64 - k.length) 0
def kb (key : Sh.B) : Sh.B := kpad (kshort key)
theorem kpad_len {k : Sh.B} (h : k.length ≤ 64) : (kpad k).length = 64 := by unfold kpad; simp; omega
theorem kb_len (key : Sh.B) : (kb key).length = 64 := kpad_len (kshort_len key)
def xk (k : Sh.B) (t : UInt8) : Sh.B := k.map (· ^^^ t)
theorem xk_len (k : Sh.B) (t : UInt8) : (xk k t).length = k.length := by simp [xk]
def xTo (k : Sh.B) (t : UInt8) (i : Nat) : Sh.B := xk (k.take i) t ++ k.drop i
theorem xTo_len (k : Sh.B) (t : UInt8) (i : Nat) (h : i ≤ k.length) : (xTo k t i).length = k.length := by simp [xTo, xk]; omega
theorem xTo_get (k : Sh.B) (t : UInt8) (i : Nat) (h : i < k.length) : (xTo k t i).getD i 0 = k[i] := by
  have hl : (xk (k.take i) t).length = i := by simp [xk]; omega
  unfold xTo
  rw [List.getD_eq_getElem?_getD, List.getElem?_append_right (by omega), hl, Nat.sub_self, List.drop_eq_getElem_cons h]; rfl
theorem xTo_step (k : Sh.B) (t : UInt8) (i : Nat) (h : i < k.length) : (xTo k t i).set i (k[i] ^^^ t) = xTo k t (i + 1) := by
  have hl : (xk (k.take i) t).length = i := by simp [xk]; omega
  unfold xTo
  rw [List.set_append_right _ _ (by omega), hl, Nat.sub_self, List.drop_eq_getElem_cons h, List.set_cons_zero, List.take_succ_eq_append_getElem h]
  unfold xk
  rw [List.map_append, List.append_assoc]
  rfl
theorem xTo_all (k : Sh.B) (t : UInt8) : xTo k t k.length = xk k t := by simp [xTo]
def mac (key b : Sh.B) : Sh.B := Sh.sum (xk (kb key) 92 ++ Sh.sum (xk (kb key) 54 ++ b))
theorem mac_len (key b : Sh.B) : (mac key b).length = 32 := Sh.sum_len _
theorem kb_copy (k : Sh.B) (h : k.length ≤ 64) : repl (ws8 (List.replicate 64 0)) 0 (byts k) = ws8 (kpad k) := by
  rw [repl_eq _ _ _ (by rw [byts_len, ws8_len, List.length_replicate]; omega), byts_len]
  unfold kpad
  rw [ws8_app, ws8_drop, Nat.zero_add, List.drop_replicate]
  simp [byts, ws8]
/-- the reference's block of a key, byte by byte -/
def rkTo (k : Sh.B) (t : UInt8) : Nat → Sh.B
  | 0 => List.replicate 64 0
  | i + 1 => (rkTo k t i).set i (k.getD i 0 ^^^ t)
theorem rkTo_len (k : Sh.B) (t : UInt8) : ∀ i, (rkTo k t i).length = 64
  | 0 => by simp [rkTo]
  | i + 1 => by unfold rkTo; rw [List.length_set]; exact rkTo_len k t i
theorem rkTo_get (k : Sh.B) (t : UInt8) : ∀ i j, j < i → i ≤ 64 → (rkTo k t i)[j]? = some (k.getD j 0 ^^^ t)
  | i + 1, j, h, h2 => by
    unfold rkTo
    by_cases e : j = i
    · subst e; rw [List.getElem?_set_self (by rw [rkTo_len]; omega)]
    · rw [List.getElem?_set_ne (by omega)]; exact rkTo_get k t i j (by omega) (by omega)
theorem rkTo_all (k : Sh.B) (t : UInt8) (h : k.length ≤ 64) : rkTo k t 64 = xk (kpad k) t := by
  apply List.ext_getElem?
  intro j
  by_cases hj : j < 64
  · rw [rkTo_get k t 64 j hj (by omega)]
    unfold xk kpad
    rw [List.getElem?_map]
    by_cases h2 : j < k.length
    · rw [List.getElem?_append_left h2, List.getElem?_eq_getElem h2]; simp [List.getD_eq_getElem?_getD, List.getElem?_eq_getElem h2]
    · rw [List.getElem?_append_right (by omega), List.getElem?_replicate, if_pos (by omega)]
      simp [List.getD_eq_getElem?_getD, List.getElem?_eq_none (show k.length ≤ j by omega)]
  · rw [List.getElem?_eq_none (by rw [rkTo_len]; omega), List.getElem?_eq_none (by rw [xk_len, kpad_len h]; omega)]
theorem kpad_short {key : Sh.B} (h : key.length ≤ 64) : kpad key = kb key := by unfold kb kshort; rw [if_neg (by omega)]
theorem kpad_long {key : Sh.B} (h : 64 < key.length) : kpad (Sh.sum key) = kb key := by unfold kb kshort; rw [if_pos h]
theorem St.frzW {K : Nat → Prop} {w0 w wb : World} {Fs : List Pc} {k : Nat} {l : List Fact} (h : St K w0 w Fs) (e : Fs[k]? = some (frzN l)) : St K w0 w (Fs.set k (frz wb l)) :=
  h.weak e fun S hA hb => ⟨S, fun f hf => .inr (hA f hf), fun _ h => h⟩
set_option maxRecDepth 100000 in
set_option maxHeartbeats 1000000 in
theorem padded_c (A : Option Addr) (l c : Nat) (key : Sh.B) (w : World) (hR : SlR w A (byts key)) (hl : key.length = l) (hc : l ≤ c) (hbig : l < 70368744177664) : Calls Try.prog 39 [.slice A l c].toArray w fun e w' => ∃ _g : Unit, e = .returned (.agg (ws8 (kb key)).toArray) ∧ St noB w w' [] ∧ True := by
  refine GC.calls Try.func39 rfl rfl (St.begin _) ?_
  subst hl
  refine GC.seq ?_
  refine GC.reg ?_
  refine GL.step (ot_alloc (zs := ws8 (List.replicate 64 0)) zb_67 (rfl) rfl fun b2 => ?_)
  refine GL.nil ?_
  refine GX.then ?_
  refine GC.seq ?_
  refine GC.reg ?_
  refine GL.step (ot_alloc (zs := ws8 (List.replicate 64 0)) zb_67 (rfl) rfl fun b3 => ?_)
  refine GL.nil ?_
  refine GX.then ?_
  refine GC.seq ?_
  refine GC.seq ?_
  refine GC.reg ?_
  refine GL.val (rv_move rfl) rfl ?_
  refine GL.val (rv_lenSl Try.underlying22 rfl) rfl ?_
  refine GL.val (rv_gtr rfl rfl) rfl ?_
  refine GL.nil ?_
  refine GX.then ?_
  first | refine GC.condP rfl (fun c7 => ?_) (fun c7 => ?_) | refine GC.cond rfl (fun c7 => ?_) (fun c7 => ?_)
  · have c7' : 64 < key.length := by omega
    refine GC.seq ?_
    refine GC.reg ?_
    refine GL.val (rv_move rfl) rfl ?_
    refine GL.step (ot_call hb_48 rfl (callOk fun w hh => sum_c _ c A key w (hh.rd0n hR) rfl hc (by omega)) rfl fun _ _ => ?_)
    refine GL.step (ot_alloc (zs := ws8 (List.replicate 32 0)) zb_27 (rfl) rfl fun b4 => ?_)
    refine GL.step (ot_storeA (k := 0) rfl rfl rfl rfl (by exact sz_27) (by first | (first | (simp only [ws8_len, List.length_replicate, Sh.sum_len, kb_len]; done) | (simp only [ws8_len]; exact kpad_len (by omega))) | rfl) (by first | (first | (simp only [ws8_len, List.length_replicate, Sh.sum_len, kb_len]; done) | (simp only [ws8_len]; exact kpad_len (by omega))) | rfl) (by first | exact ws8_one _ | rfl) ?_)
    refine GL.nil ?_
    refine GX.then ?_
    refine GC.reg ?_
    refine GL.val (rv_to (v' := .slice (some ⟨b4, 0, none⟩) (Sh.sum key).length 32) (rv_slA (E := 5) as_27 rfl rfl rfl 0 32 0 rfl rfl (by decide) (by decide) (by decide) rfl) (by rw [Sh.sum_len])) rfl ?_
    refine GL.val (rv_assign rfl) rfl ?_
    refine GL.nil ?_
    refine GX.then ?_
    refine GC.seq ?_
    refine GC.reg ?_
    refine GL.val (rv_to (v' := .slice (some ⟨b3, 0, none⟩) 64 64) (rv_slA (E := 5) as_67 rfl rfl rfl 0 64 0 rfl rfl (by decide) (by decide) (by decide) rfl) rfl) rfl ?_
    refine GL.val (rv_move rfl) rfl ?_
    refine GL.step (ot_copy (k := 1) (m := 32) (us := byts (Sh.sum key)) (cs' := ws8 (kb key)) ei_22 rfl rfl (by rw [Sh.sum_len]; rfl) rfl (fun w h => .inr ⟨b4, 0, rfl, Hd.cellsAll (k := 0) rfl w h⟩) (by rw [byts_len, Sh.sum_len]) (byts_one _) (by rw [byts_len, Sh.sum_len, ws8_len, List.length_replicate]; omega) (by rw [← kpad_long c7']; exact kb_copy _ (by rw [Sh.sum_len]; omega)) rfl ?_)
    refine GL.nil ?_
    refine GX.then ?_
    refine GC.seq ?_
    refine GC.reg ?_
    refine GL.val (rv_loadAL ag_67 rfl (by first | exact Hd.cellsAll (k := 1) rfl | exact Hd.cells (k := 1) rfl rfl) (by exact sz_67) (by first | (first | (simp only [ws8_len, List.length_replicate, Sh.sum_len, kb_len]; done) | (simp only [ws8_len]; exact kpad_len (by omega))) | rfl)) rfl ?_
    refine GL.step (ot_storeA (k := 2) rfl rfl rfl rfl (by exact sz_67) (by first | (first | (simp only [ws8_len, List.length_replicate, Sh.sum_len, kb_len]; done) | (simp only [ws8_len]; exact kpad_len (by omega))) | rfl) (by first | (first | (simp only [ws8_len, List.length_replicate, Sh.sum_len, kb_len]; done) | (simp only [ws8_len]; exact kpad_len (by omega))) | rfl) (by first | exact ws8_one _ | rfl) ?_)
    refine GL.nil ?_
    refine GX.then ?_
    refine GC.ret ?_
    refine GX.ret1 rfl (RR.cellL ag_67 rfl (by first | exact Hd.cellsAll (k := 2) rfl | exact Hd.cells (k := 2) rfl rfl) (by exact sz_67) (by first | (first | (simp only [ws8_len, List.length_replicate, Sh.sum_len, kb_len]; done) | (simp only [ws8_len]; exact kpad_len (by omega))) | rfl)) ?_
    exact fun w9 h => ⟨(), rfl, by
        have h := h.sel [] rfl rfl
        exact h, trivial⟩
  · refine GC.skip ?_
    refine GX.then ?_
    refine GC.seq ?_
    refine GC.reg ?_
    refine GL.val (rv_to (v' := .slice (some ⟨b3, 0, none⟩) 64 64) (rv_slA (E := 5) as_67 rfl rfl rfl 0 64 0 rfl rfl (by decide) (by decide) (by decide) rfl) rfl) rfl ?_
    refine GL.val (rv_move rfl) rfl ?_
    refine GL.step (ot_copy (k := 0) (m := key.length) (us := byts key) (cs' := ws8 (kb key)) ei_22 rfl rfl (by omega) rfl (fun w h => h.rd0n hR) (by rw [byts_len, Nat.mul_one]) (byts_one _) (by rw [byts_len, ws8_len, List.length_replicate]; omega) (by rw [← kpad_short (by omega)]; exact kb_copy _ (by omega)) rfl ?_)
    refine GL.nil ?_
    refine GX.then ?_
    refine GC.seq ?_
    refine GC.reg ?_
    refine GL.val (rv_loadAL ag_67 rfl (by first | exact Hd.cellsAll (k := 0) rfl | exact Hd.cells (k := 0) rfl rfl) (by exact sz_67) (by first | (first | (simp only [ws8_len, List.length_replicate, Sh.sum_len, kb_len]; done) | (simp only [ws8_len]; exact kpad_len (by omega))) | rfl)) rfl ?_
    refine GL.step (ot_storeA (k := 1) rfl rfl rfl rfl (by exact sz_67) (by first | (first | (simp only [ws8_len, List.length_replicate, Sh.sum_len, kb_len]; done) | (simp only [ws8_len]; exact kpad_len (by omega))) | rfl) (by first | (first | (simp only [ws8_len, List.length_replicate, Sh.sum_len, kb_len]; done) | (simp only [ws8_len]; exact kpad_len (by omega))) | rfl) (by first | exact ws8_one _ | rfl) ?_)
    refine GL.nil ?_
    refine GX.then ?_
    refine GC.ret ?_
    refine GX.ret1 rfl (RR.cellL ag_67 rfl (by first | exact Hd.cellsAll (k := 1) rfl | exact Hd.cells (k := 1) rfl rfl) (by exact sz_67) (by first | (first | (simp only [ws8_len, List.length_replicate, Sh.sum_len, kb_len]; done) | (simp only [ws8_len]; exact kpad_len (by omega))) | rfl)) ?_
    exact fun w9 h => ⟨(), rfl, by
        have h := h.sel [] rfl rfl
        exact h, trivial⟩
set_option maxRecDepth 100000 in
set_option maxHeartbeats 1000000 in
theorem keyed_c (A : Option Addr) (l c : Nat) (key : Sh.B) (w : World) (hR : SlR w A (byts key)) (hl : key.length = l) (hc : l ≤ c) (hbig : l < 70368744177664) : Calls Try.prog 33 [.slice A l c].toArray w fun e w' => ∃ g : Nat, e = .returned (.func (.func 40) #[] [.pointer (some ⟨g, 0, none⟩)].toArray) ∧ St noB w w' [.cl g (ws8 (kb key)) 67] ∧ True := by
  refine GC.calls Try.func33 rfl rfl (St.begin _) ?_
  refine GC.seq ?_
  refine GC.reg ?_
  refine GL.val (rv_assign rfl) rfl ?_
  refine GL.nil ?_
  refine GX.then ?_
  refine GC.seq ?_
  refine GC.reg ?_
  refine GL.val (rv_move rfl) rfl ?_
  refine GL.step (ot_call hb_39 rfl (callOk fun w hh => padded_c A l c key w (hh.rd0n hR) hl hc hbig) rfl fun _ _ => ?_)
  refine GL.step (ot_alloc (zs := ws8 (List.replicate 64 0)) zb_67 (rfl) rfl fun b3 => ?_)
  refine GL.step (ot_storeA (k := 0) rfl rfl rfl rfl (by exact sz_67) (by first | (simp only [ws8_len, List.length_replicate, kb_len]) | rfl) (by first | (simp only [ws8_len, List.length_replicate, kb_len]) | rfl) (by first | exact ws8_one _ | rfl) ?_)
  refine GL.nil ?_
  refine GX.then ?_
  refine GC.seq ?_
  refine GC.reg ?_
  refine GL.val (rv_makeFunc rfl) rfl ?_
  refine GL.val (rv_assign rfl) rfl ?_
  refine GL.nil ?_
  refine GX.then ?_
  refine GC.ret ?_
  refine GX.ret1 rfl (RR.tmp rfl) ?_
  exact fun w9 h => ⟨b3, rfl, by
      exact h, trivial⟩
set_option maxRecDepth 100000 in
set_option maxHeartbeats 1000000 in
theorem maker_c (t : UInt8) (b : Nat) (kk : Sh.B) (w : World) (hC : Cells w b 0 (ws8 kk)) (hk : kk.length = 64) : Calls Try.prog 40 [v8 t, .pointer (some ⟨b, 0, none⟩)].toArray w fun e w' => ∃ g : Nat × Sh.W × Sh.B × Nat, e = .returned (.pointer (some ⟨g.1, 0, none⟩)) ∧ St noB w w' [.cl g.1 (Sh.hc g.2.1 g.2.2.1 g.2.2.2 (UInt64.ofNat (xk kk t).length)) 71] ∧ Sh.Rep (xk kk t) g.2.1 g.2.2.1 g.2.2.2 := by
  refine GC.calls Try.func40 rfl rfl (St.begin _) ?_
  refine GC.seq ?_
  refine GC.reg ?_
  refine GL.val (rv_assign rfl) rfl ?_
  refine GL.nil ?_
  refine GX.then ?_
  refine GC.seq ?_
  refine GC.reg ?_
  refine GL.val (rv_loadAL ag_67 rfl (Hd.cells0 hC (fun h => h)) (by exact sz_67) (by first | (first | (simp only [ws8_len, hk, List.length_replicate]; done)) | rfl)) rfl ?_
  refine GL.step (ot_alloc (zs := ws8 (List.replicate 64 0)) zb_67 (rfl) rfl fun b4 => ?_)
  refine GL.step (ot_storeA (k := 0) rfl rfl rfl rfl (by exact sz_67) (by first | (first | (simp only [ws8_len, hk, List.length_replicate]; done)) | rfl) (by first | (first | (simp only [ws8_len, hk, List.length_replicate]; done)) | rfl) (by first | exact ws8_one _ | rfl) ?_)
  refine GL.nil ?_
  refine GX.then ?_
  refine GC.seq ?_
  refine GC.seq ?_
  refine GC.reg ?_
  refine GL.val (rv_move rfl) rfl ?_
  refine GL.nil ?_
  refine GX.then ?_
  refine GC.block ?_
  refine GC.loopK (γ := Nat) [4, 0] [] (fun g Lk => (8, .int .i64 (g : Int)) :: Lk) (fun g Fk => .cl b4 (ws8 (xTo kk t g)) 67 :: Fk) (fun g => g ≤ 64) (fun g => 64 - g) (0) rfl rfl (Nat.zero_le _) (by repeat (first | exact Sub.nil | refine Sub.cons rfl ?_)) (fun w9 h => by
      exact h) (fun i hi => ?_)
  skip
  refine GC.seq ?_
  refine GC.reg ?_
  refine GL.val (rv_lss rfl rfl) rfl ?_
  refine GL.nil ?_
  refine GX.then ?_
  refine GC.seq ?_
  first | refine GC.condP rfl (fun c9 => ?_) (fun c9 => ?_) | refine GC.cond rfl (fun c9 => ?_) (fun c9 => ?_)
  · have hlt : i < 64 := by omega
    refine GC.skip ?_
    refine GX.then ?_
    refine GC.seq ?_
    refine GC.block ?_
    refine GC.seq ?_
    refine GC.reg ?_
    refine GL.val (rv_move rfl) rfl ?_
    refine GL.val (rv_assign rfl) rfl ?_
    refine GL.nil ?_
    refine GX.then ?_
    refine GC.reg ?_
    refine GL.val (rv_move rfl) rfl ?_
    refine GL.val (rv_elemAJ (q := i) (i) as_67 rfl rfl (by first | rfl | omega) (by omega) (by first | rfl | omega)) rfl ?_
    refine GL.val (rv_load ag_5 rfl (Hd.cell (k := 0) rfl (ws8_get (by rw [xTo_len _ _ _ (by omega)]; omega)))) rfl ?_
    refine GL.val (rv_move rfl) rfl ?_
    refine GL.val (rv_xor8 rfl rfl) rfl ?_
    refine GL.val (rv_elemAJ (q := i) (i) as_67 rfl rfl (by first | rfl | omega) (by omega) (by first | rfl | omega)) rfl ?_
    refine GL.step (ot_store1 (k := 0) rfl rfl rfl rfl (by exact sz_5) rfl (by rw [ws8_len, xTo_len _ _ _ (by omega)]; omega) (by rw [ws8_set, xTo_get kk t i (by omega), xTo_step kk t i (by omega)]) ?_)
    refine GL.nil ?_
    refine GX.blk ?_
    refine GX.then ?_
    refine GC.reg ?_
    refine GL.val (rv_add rfl rfl (by omega) (by omega)) rfl ?_
    refine GL.val (rv_move rfl) rfl ?_
    refine GL.nil ?_
    exact GX.round (i + 1) (by omega) (by omega) (by repeat (first | exact Sub.nil | refine Sub.cons rfl ?_)) (fun w9 h => by
        exact h)
  · obtain rfl : i = 64 := by omega
    rw [show xTo kk t 64 = xk kk t from by rw [← hk]; exact xTo_all kk t]
    refine GC.exit ?_
    refine GX.then_exit ?_
    refine GX.then_exit ?_
    refine GX.blk_eq ?_
    refine GX.then ?_
    refine GC.seq ?_
    refine GC.reg ?_
    refine GL.step (ot_call hb_41 rfl (callOk fun w hh => new_c w) rfl fun b6 _ => ?_)
    refine GL.val (rv_assign rfl) rfl ?_
    refine GL.nil ?_
    refine GX.then ?_
    refine GC.seq ?_
    refine GC.reg ?_
    refine GL.val (rv_move rfl) rfl ?_
    refine GL.val (rv_to (v' := .slice (some ⟨b4, 0, none⟩) 64 64) (rv_slA (E := 5) as_67 rfl rfl rfl 0 64 0 rfl rfl (by decide) (by decide) (by decide) rfl) rfl) rfl ?_
    refine GL.step (ot_call hb_34 rfl (callOkS (k := 0) rfl fun w S hh hA hb hs => write_c b6 64 64 (some ⟨b4, 0, none⟩) [] (xk kk t) Sh.H0 (List.replicate 64 0) 0 w S Sh.Rep.begin hA (fun b h => (hb b h).1) (hs.cl (j := 1) rfl (by decide) hh (by rw [byts_ws]; simp)) (by rw [xk_len, hk]) (by decide) (by decide)) rfl fun gw hr2 => ?_)
    obtain ⟨hw2, blk2, hv2⟩ := gw
    simp only [List.nil_append] at hr2 ⊢
    refine GL.nil ?_
    refine GX.then ?_
    refine GC.seq ?_
    refine GC.reg ?_
    refine GL.val (rv_move rfl) rfl ?_
    refine GL.val (rv_assign rfl) rfl ?_
    refine GL.nil ?_
    refine GX.then ?_
    refine GC.ret ?_
    refine GX.ret1 rfl (RR.tmp rfl) ?_
    exact fun w9 h => ⟨(b6, hw2, blk2, hv2), rfl, by
        have h := h.sel [0] rfl rfl
        exact h, hr2⟩
set_option maxRecDepth 100000 in
set_option maxHeartbeats 1000000 in
theorem mac_c (A : Option Addr) (l c : Nat) (key : Sh.B) (A2 : Option Addr) (n c2 : Nat) (ps : List Sp) (w : World) (hR : SlR w A (byts key)) (hl : key.length = l) (hc : l ≤ c) (hbig : l < 70368744177664) (hR2 : SlR w A2 (sls ps)) (hP : ∀ q ∈ ps, SlR w q.2.1 (byts q.1)) (hPc : ∀ q ∈ ps, q.1.length ≤ q.2.2) (hn : ps.length = n) (hnb : n ≤ 1099511627776) (hpb : (cat ps).length ≤ 1099511627776) : Calls Try.prog 26 [.slice A l c, .slice A2 n c2].toArray w fun e w' => ∃ _g : Unit, e = .returned (.agg (ws8 (mac key (cat ps))).toArray) ∧ St noB w w' [] ∧ True := by
  refine GC.calls Try.func26 rfl rfl (St.begin _) ?_
  subst hn
  have HA := sHead hR2
  have hkl := kb_len key
  refine GC.seq ?_
  refine GC.reg ?_
  refine GL.step (ot_alloc (zs := ws8 (List.replicate 32 0)) zb_27 (rfl) rfl fun b4 => ?_)
  refine GL.nil ?_
  refine GX.then ?_
  refine GC.seq ?_
  refine GC.reg ?_
  refine GL.val (rv_move rfl) rfl ?_
  refine GL.step (ot_call hb_33 rfl (callOk fun w hh => keyed_c A l c key w (hh.rd0n hR) hl hc hbig) rfl fun bk _ => ?_)
  refine GL.val (rv_assign rfl) rfl ?_
  refine GL.nil ?_
  refine GX.then ?_
  refine GC.seq ?_
  refine GC.reg ?_
  refine GL.val (rv_move rfl) rfl ?_
  refine GL.step (ot_callv hb_40 rfl rfl (callOk fun w hh => maker_c 54 bk (kb key) w (Hd.cellsAll (k := 0) rfl w hh) hkl) rfl fun gi hri => ?_)
  obtain ⟨bi, hwi, blki, hvi⟩ := gi
  dsimp only at hri ⊢
  refine GL.val (rv_assign rfl) rfl ?_
  refine GL.nil ?_
  refine GX.then ?_
  refine GC.seq ?_
  refine GC.seq ?_
  refine GC.reg ?_
  refine GL.val (rv_move rfl) rfl ?_
  refine GL.val (rv_lenSl Try.underlying49 rfl) rfl ?_
  refine GL.val (rv_move rfl) rfl ?_
  refine GL.nil ?_
  refine GX.then ?_
  refine GC.block ?_
  refine GC.loopK (γ := Nat × Sh.W × Sh.B × Nat) [16, 15, 6, 5, 4] [2, 1] (fun g Lk => (17, .int .i64 (g.1 : Int)) :: Lk) (fun g Fk => .cl bi (Sh.hc g.2.1 g.2.2.1 g.2.2.2 (UInt64.ofNat (xk (kb key) 54 ++ cat (ps.take g.1)).length)) 71 :: Fk) (fun g => (g.1 ≤ ps.length) ∧ (Sh.Rep (xk (kb key) 54 ++ cat (ps.take g.1)) g.2.1 g.2.2.1 g.2.2.2)) (fun g => ps.length - g.1) (0, hwi, blki, hvi) rfl rfl ⟨Nat.zero_le _, by rw [show xk (kb key) 54 ++ cat (ps.take 0) = xk (kb key) 54 from List.append_nil _]; exact hri⟩ (by repeat (first | exact Sub.nil | refine Sub.cons rfl ?_)) (fun w9 h => by
      rw [show xk (kb key) 54 ++ cat (ps.take 0) = xk (kb key) 54 from List.append_nil _]
      exact h) (fun ⟨j, hw1, blk1, hv1⟩ ⟨hj, hr1⟩ => ?_)
  dsimp only at hj hr1 ⊢
  refine GC.seq ?_
  refine GC.reg ?_
  refine GL.val (rv_lss rfl rfl) rfl ?_
  refine GL.nil ?_
  refine GX.then ?_
  refine GC.seq ?_
  first | refine GC.condP rfl (fun c18 => ?_) (fun c18 => ?_) | refine GC.cond rfl (fun c18 => ?_) (fun c18 => ?_)
  · have hlt : j < ps.length := by omega
    obtain ⟨b, o, rfl, hC⟩ := HA.resolve_left (by omega)
    refine GC.skip ?_
    refine GX.then ?_
    refine GC.seq ?_
    refine GC.block ?_
    refine GC.seq ?_
    refine GC.reg ?_
    refine GL.val (rv_elemJ (q := o + j) j es_49 rfl rfl rfl (by omega) (by omega)) rfl ?_
    refine GL.val (rv_load ag_22 rfl (Hd.cell0 (sAt hC hlt) (fun h => h))) rfl ?_
    refine GL.val (rv_assign rfl) rfl ?_
    refine GL.nil ?_
    refine GX.then ?_
    refine GC.reg ?_
    refine GL.val (rv_move rfl) rfl ?_
    refine GL.val (rv_move rfl) rfl ?_
    refine GL.step (ot_call hb_34 rfl (callOkS (k := 0) rfl fun w S hh hA hb hs => write_c bi _ _ _ (xk (kb key) 54 ++ cat (ps.take j)) ps[j].1 hw1 blk1 hv1 w S hr1 hA (fun b h => (hb b h).1) (SlA.old (SlR.a0 (hP _ (List.getElem_mem hlt))) hh hb) rfl (hPc _ (List.getElem_mem hlt)) (by have := cat_le ps (j + 1); rw [cat_step ps j hlt, List.length_append] at this; omega)) rfl fun gw hr2 => ?_)
    obtain ⟨hw2, blk2, hv2⟩ := gw
    dsimp only at hr2 ⊢
    refine GL.nil ?_
    refine GX.blk ?_
    refine GX.then ?_
    refine GC.reg ?_
    refine GL.val (rv_add rfl rfl (by omega) (by omega)) rfl ?_
    refine GL.val (rv_move rfl) rfl ?_
    refine GL.nil ?_
    exact GX.round (j + 1, hw2, blk2, hv2) (by dsimp only; omega) ⟨by dsimp only; omega, by dsimp only; rw [cat_step ps j hlt, ← List.append_assoc]; exact hr2⟩ (by repeat (first | exact Sub.nil | refine Sub.cons rfl ?_)) (fun w9 h => by
        dsimp only
        rw [cat_step ps j hlt, ← List.append_assoc]
        exact h)
  · obtain rfl : j = ps.length := by omega
    rw [List.take_of_length_le (Nat.le_refl _)] at hr1 ⊢
    refine GC.exit ?_
    refine GX.then_exit ?_
    refine GX.then_exit ?_
    refine GX.blk_eq ?_
    refine GX.then ?_
    refine GC.seq ?_
    refine GC.reg ?_
    refine GL.val (rv_move rfl) rfl ?_
    refine GL.step (ot_call hb_35 rfl (callOk fun w hh => digest_c bi (xk (kb key) 54 ++ cat ps) hw1 blk1 hv1 w hr1 (Hd.cellsAll (k := 0) rfl w hh)) rfl fun _ _ => ?_)
    refine GL.step (ot_alloc (zs := ws8 (List.replicate 32 0)) zb_27 (rfl) rfl fun b9 => ?_)
    refine GL.step (ot_storeA (k := 0) rfl rfl rfl rfl (by exact sz_27) (by first | (simp only [ws8_len, List.length_replicate, Sh.sum_len, mac_len]) | rfl) (by first | (simp only [ws8_len, List.length_replicate, Sh.sum_len, mac_len]) | rfl) (by first | exact ws8_one _ | rfl) ?_)
    refine GL.nil ?_
    refine GX.then ?_
    refine GC.seq ?_
    refine GC.reg ?_
    refine GL.val (rv_move rfl) rfl ?_
    refine GL.step (ot_callv hb_40 rfl rfl (callOk fun w hh => maker_c 92 bk (kb key) w (Hd.cellsAll (k := 2) rfl w hh) hkl) rfl fun go hro => ?_)
    obtain ⟨bo, hwo, blko, hvo⟩ := go
    dsimp only at hro ⊢
    refine GL.val (rv_assign rfl) rfl ?_
    refine GL.nil ?_
    refine GX.then ?_
    refine GC.seq ?_
    refine GC.reg ?_
    refine GL.val (rv_move rfl) rfl ?_
    refine GL.val (rv_to (v' := .slice (some ⟨b9, 0, none⟩) (Sh.sum (xk (kb key) 54 ++ cat ps)).length 32) (rv_slA (E := 5) as_27 rfl rfl rfl 0 32 0 rfl rfl (by decide) (by decide) (by decide) rfl) (by rw [Sh.sum_len])) rfl ?_
    refine GL.step (ot_call hb_34 rfl (callOkS (k := 0) rfl fun w S hh hA hb hs => write_c bo _ _ _ (xk (kb key) 92) (Sh.sum (xk (kb key) 54 ++ cat ps)) hwo blko hvo w S hro hA (fun b h => (hb b h).1) (hs.cl (j := 1) rfl (by decide) hh (by rw [byts_ws]; simp)) rfl (by rw [Sh.sum_len]; decide) (by rw [Sh.sum_len]; decide)) rfl fun gx hrx => ?_)
    obtain ⟨hwx, blkx, hvx⟩ := gx
    dsimp only at hrx ⊢
    refine GL.nil ?_
    refine GX.then ?_
    refine GC.seq ?_
    refine GC.reg ?_
    refine GL.val (rv_move rfl) rfl ?_
    refine GL.step (ot_call hb_35 rfl (callOk fun w hh => digest_c bo (xk (kb key) 92 ++ Sh.sum (xk (kb key) 54 ++ cat ps)) hwx blkx hvx w hrx (Hd.cellsAll (k := 0) rfl w hh)) rfl fun _ _ => ?_)
    refine GL.step (ot_storeA (k := 4) rfl rfl rfl rfl (by exact sz_27) (by first | (simp only [ws8_len, List.length_replicate, Sh.sum_len, mac_len]) | rfl) (by first | (simp only [ws8_len, List.length_replicate, Sh.sum_len, mac_len]) | rfl) (by first | exact ws8_one _ | rfl) ?_)
    refine GL.nil ?_
    refine GX.then ?_
    refine GC.ret ?_
    refine GX.ret1 rfl (RR.cellL ag_27 rfl (by first | exact Hd.cellsAll (k := 4) rfl | exact Hd.cells (k := 4) rfl rfl) (by exact sz_27) (by first | (simp only [ws8_len, List.length_replicate, Sh.sum_len, mac_len]) | rfl)) ?_
    exact fun w9 h => ⟨(), rfl, by
        have h := h.sel [] rfl rfl
        exact h, trivial⟩
end Go.Proofs.Ytiiofagddljgdaa
