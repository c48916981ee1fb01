import Derived.Test.YtaocclmdlpnjbaaK
set_option linter.unusedVariables false
set_option linter.unusedSimpArgs false
namespace Go.Proofs.Ytaocclmdlpnjbaa
open Go Go.RowKit Go.Bz
theorem ag_26 : aggB Try.prog 26 = some true := by kernel_rfl
theorem ag_34 : aggB Try.prog 34 = some true := by kernel_rfl
theorem hb_13 : hasBody Try.prog 13 = true := by kernel_rfl
theorem hb_14 : hasBody Try.prog 14 = true := by kernel_rfl
theorem hb_15 : hasBody Try.prog 15 = true := by kernel_rfl
theorem hb_16 : hasBody Try.prog 16 = true := by kernel_rfl
theorem hb_17 : hasBody Try.prog 17 = true := by kernel_rfl
theorem hb_18 : hasBody Try.prog 18 = true := by kernel_rfl
theorem hb_20 : hasBody Try.prog 20 = true := by kernel_rfl
theorem hb_21 : hasBody Try.prog 21 = true := by kernel_rfl
theorem hb_22 : hasBody Try.prog 22 = true := by kernel_rfl
theorem hb_23 : hasBody Try.prog 23 = true := by kernel_rfl
theorem hb_24 : hasBody Try.prog 24 = true := by kernel_rfl
theorem hb_25 : hasBody Try.prog 25 = true := by kernel_rfl
theorem hb_26 : hasBody Try.prog 26 = true := by kernel_rfl
theorem hb_27 : hasBody Try.prog 27 = true := by kernel_rfl
theorem hb_47 : hasBody Try.prog 47 = true := by kernel_rfl
theorem sz_26 : (Try.prog.info? 26).map (·.size) = some 97 := by kernel_rfl
theorem sz_34 : (Try.prog.info? 34).map (·.size) = some 3 := by kernel_rfl
variable {L : List (Nat × Value)} {Fs : List Pc} {ty : TypeId} {x y : Operand}
theorem rv_buildAp {P : Program} {K : Nat → Prop} {w0 : World} {n t m : Nat} {parts : List (Nat × Operand)} {ps : List (Nat × Value)} {zs cs : List Value} (hz : arrSz P t = some (m, 1)) (hz0 : zeroB P t = some (.agg zs.toArray)) (e : evp L parts = some ps) (hf : Instr.fill (fun i => some (i * 1, 1)) zs.toArray ps = some cs.toArray) :
    RV P K w0 n L Fs (.build t parts.toArray) ty (.agg cs.toArray) := by
  refine rv_build e fun w => ?_
  unfold arrSz at hz
  split at hz <;> try contradiction
  rename_i m' E hu
  obtain ⟨inf, hi, hh⟩ := Option.map_eq_some_iff.1 hz
  simp only [Prod.mk.injEq] at hh
  obtain ⟨rfl, hs⟩ := hh
  have hc : (Value.agg zs.toArray).cells = zs.toArray := rfl
  unfold Instr.build
  simp only [Sem.run_bind, run_zero hz0, Result.andThen_ok, run_underlying hu, Bz.run_sizeOf hi, hs, hc]
  rw [hf]
  simp [Sem.run_pure]
theorem sameb_t (A B : Option Addr) (c d n m : Nat) (a : List UInt8) (w : World) (hR : SlR w A (byts a)) (hR' : SlR w B (byts a)) (hl : a.length = n) (hl' : a.length = m) :
    Calls Try.prog 13 [.slice A n c, .slice B m d].toArray w fun e w' => ∃ _g : Unit, e = .returned (.bool true) ∧ St noB w w' [] ∧ True := by
  have := sameb_c A B c d n m a a w hR hR' hl hl'
  simpa using this
theorem num_inj {a b : UInt64} (h : num a = num b) : a = b := by
  have hd : ∀ n : UInt64, num n = [(n >>> UInt64.ofNat 56).toUInt8, (n >>> UInt64.ofNat 48).toUInt8, (n >>> UInt64.ofNat 40).toUInt8, (n >>> UInt64.ofNat 32).toUInt8, (n >>> UInt64.ofNat 24).toUInt8, (n >>> UInt64.ofNat 16).toUInt8, (n >>> UInt64.ofNat 8).toUInt8, (n >>> UInt64.ofNat 0).toUInt8] := fun _ => rfl
  rw [hd a, hd b] at h
  have hb : ∀ (n : UInt64) (k : Nat), k < 64 → ((n >>> UInt64.ofNat k).toUInt8).toNat = n.toNat / 2 ^ k % 256 := fun n k hk => by
    have e : (UInt64.ofNat k).toNat % 64 = k := by rw [UInt64.toNat_ofNat']; omega
    rw [UInt64.toNat_toUInt8, UInt64.toNat_shiftRight, e, Nat.shiftRight_eq_div_pow]
  simp only [List.cons.injEq, and_true, ← UInt8.toNat_inj] at h
  obtain ⟨h7, h6, h5, h4, h3, h2, h1, h0⟩ := h
  rw [hb _ _ (by omega), hb _ _ (by omega)] at h7 h6 h5 h4 h3 h2 h1 h0
  have ha := lt64 a
  have hbb := lt64 b
  apply UInt64.toNat_inj.1
  simp only [Nat.reducePow] at *
  omega
theorem rbytes_inj {e e' : UInt64} {p t z p' t' z' : Sh.B} (h1 : p.length = 32) (h2 : t.length = 32) (h3 : z.length = 32) (h4 : p'.length = 32) (h5 : t'.length = 32) (h6 : z'.length = 32) : rbytes e p t z = rbytes e' p' t' z' ↔ (e = e' ∧ p = p' ∧ t = t' ∧ z = z') := by
  constructor
  · intro h
    simp only [rbytes, List.cons.injEq, true_and] at h
    obtain ⟨ha, h⟩ := List.append_inj h (by rw [num_len, num_len])
    obtain ⟨hb, h⟩ := List.append_inj h (by omega)
    obtain ⟨hc, hd⟩ := List.append_inj h (by omega)
    exact ⟨num_inj ha, hb, hc, hd⟩
  · rintro ⟨rfl, rfl, rfl, rfl⟩; rfl
theorem two_inj {c : UInt8} {a b a' b' : Sh.B} (h : a.length = a'.length) : c :: (a ++ b) = c :: (a' ++ b') ↔ (a = a' ∧ b = b') := by
  constructor
  · intro h2
    simp only [List.cons.injEq, true_and] at h2
    exact List.append_inj h2 h
  · rintro ⟨rfl, rfl⟩; rfl
theorem vbytes_inj {s s' : Sh.B} {nm nm' : ByteArray} {key key' : Sh.B} {ser ser' : UInt64} (h1 : s.length = 32) (h2 : s'.length = 32) (hn : nm.size ≤ 1000000) (hn' : nm'.size ≤ 1000000) : vbytes s nm key ser = vbytes s' nm' key' ser' ↔ (s = s' ∧ (nm = nm' ∧ ser = ser' ∧ key = key')) := by
  constructor
  · intro h
    simp only [vbytes, List.cons.injEq, true_and] at h
    obtain ⟨ha, h⟩ := List.append_inj h (by omega)
    obtain ⟨hb, h⟩ := List.append_inj h (by rw [num_len, num_len])
    have hs : nm.size = nm'.size := by
      have := congrArg UInt64.toNat (num_inj hb)
      rw [UInt64.toNat_ofNat', UInt64.toNat_ofNat'] at this
      omega
    obtain ⟨hc, h⟩ := List.append_inj h hs
    obtain ⟨hd, he⟩ := List.append_inj h (by rw [num_len, num_len])
    refine ⟨ha, ?_, num_inj hd, he⟩
    cases nm; cases nm'; simp only [ByteArray.mk.injEq] at *
    exact Array.toList_inj.1 hc
  · rintro ⟨rfl, rfl, rfl, rfl⟩; rfl
theorem kind_leaf {a b : Sh.B} (ha : a.length = 32) (hb : b.length = 32) : kind (76 :: (a ++ b)) = 76 := by rw [kind, if_pos (.inr (.inl ⟨.inl rfl, by simp [ha, hb]⟩))]
theorem kind_node {a b : Sh.B} (ha : a.length = 32) (hb : b.length = 32) : kind (78 :: (a ++ b)) = 78 := by rw [kind, if_pos (.inr (.inl ⟨.inr rfl, by simp [ha, hb]⟩))]
theorem kind_val {s : Sh.B} {nm : ByteArray} {key : Sh.B} {ser : UInt64} (h1 : s.length = 32) (hn : nm.size ≤ 2000) (hk : key.length ≤ 2000) : kind (vbytes s nm key ser) = 86 := by
  have e : nm.data.toList.length = nm.size := rfl
  unfold vbytes
  rw [kind, if_pos (.inr (.inr (.inr ⟨rfl, by simp only [List.length_append, num_len, h1, e]; omega, by simp only [List.length_append, num_len, h1, e]; omega⟩)))]
theorem kind_rt {e : UInt64} {p t z : Sh.B} (h1 : p.length = 32) (h2 : t.length = 32) (h3 : z.length = 32) : kind (rbytes e p t z) = 82 := by
  unfold rbytes
  rw [kind, if_pos (.inr (.inr (.inl ⟨rfl, by simp only [List.length_append, num_len, h1, h2, h3]⟩)))]
set_option maxRecDepth 100000 in
set_option maxHeartbeats 1000000 in
theorem works_c (w : World) : Calls Try.prog 15 [].toArray w fun e w' => ∃ _g : Unit, e = .returned (.bool true) ∧ St noB w w' [] ∧ True := by
  refine GC.calls Try.func15 rfl rfl (St.begin _) ?_
  refine GC.seq ?_
  refine GC.reg ?_
  refine GL.val (rv_assign rfl) rfl ?_
  refine GL.nil ?_
  refine GX.then ?_
  refine GC.seq ?_
  refine GC.reg ?_
  refine GL.step (ot_call hb_25 rfl (callOk fun w hh => empty_c w) rfl fun g1 _ => ?_)
  refine GL.val (rv_convBS (b := [69]) Try.underlying28 Try.underlying5 Try.underlying9 rfl (fun w h => h.ro (k := 0) rfl) rfl) rfl ?_
  refine GL.val (rv_to (v' := .bool true) (rv_eqS rfl rfl) (by simp)) rfl ?_
  refine GL.val (rv_move rfl) rfl ?_
  first | refine GL.skipG rfl rfl ?_ | refine GL.skipU rfl rfl ?_ | refine GL.valT rfl (rv_buildAp (cs := ws8 (1 :: List.replicate 31 0 : Sh.B)) as_24 zb_24 rfl rfl) rfl ?_ | refine GL.valG rfl (fun hb => rv_buildAp (cs := ws8 (1 :: List.replicate 31 0 : Sh.B)) as_24 zb_24 (by first | exact evb rfl hb | rfl) (by first | exact evb rfl hb | rfl)) rfl ?_
  first | refine GL.skipG rfl rfl ?_ | refine GL.skipU rfl rfl ?_ | refine GL.valT rfl (rv_buildAp (cs := ws8 (2 :: List.replicate 31 0 : Sh.B)) as_24 zb_24 rfl rfl) rfl ?_ | refine GL.valG rfl (fun hb => rv_buildAp (cs := ws8 (2 :: List.replicate 31 0 : Sh.B)) as_24 zb_24 (by first | exact evb rfl hb | rfl) (by first | exact evb rfl hb | rfl)) rfl ?_
  first | refine GL.skipG rfl rfl ?_ | refine GL.skipU rfl rfl ?_ | refine GL.stepG rfl (ot_call hb_17 rfl (callOk fun w hh => leaf_c (1 :: List.replicate 31 0 : Sh.B) (2 :: List.replicate 31 0 : Sh.B) w (by rfl) (by rfl)) rfl fun g7 _ => ?_)
  first | refine GL.skipG rfl rfl ?_ | refine GL.skipU rfl rfl ?_ | refine GL.valT rfl (rv_lenSl Try.underlying28 rfl) rfl ?_ | refine GL.valG rfl (fun hb => rv_lenSl Try.underlying28 (by first | exact evb rfl hb | rfl)) rfl ?_
  first | refine GL.skipG rfl rfl ?_ | refine GL.skipU rfl rfl ?_ | refine GL.valT rfl (rv_to (v' := .bool true) (rv_eqI rfl rfl) (by simp)) rfl ?_ | refine GL.valG rfl (fun hb => rv_to (v' := .bool true) (rv_eqI (by first | exact evb rfl hb | rfl) (by first | exact evb rfl hb | rfl)) (by simp)) rfl ?_
  refine GL.val ((by first | exact rv_andT rfl rfl rfl | exact rv_andF rfl rfl rfl | exact rv_pickAnd rfl rfl rfl)) rfl ?_
  refine GL.val (rv_move rfl) rfl ?_
  first | refine GL.skipG rfl rfl ?_ | refine GL.skipU rfl rfl ?_ | refine GL.stepG rfl (ot_buildSlice ei_28 rfl rfl rfl rfl rfl rfl fun b12 => ?_)
  first | refine GL.skipG rfl rfl ?_ | refine GL.skipU rfl rfl ?_ | refine GL.stepG rfl (ot_mark (k := 0) Try.underlying28 Try.underlying5 rfl rfl rfl ?_)
  first | refine GL.skipG rfl rfl ?_ | refine GL.skipU rfl rfl ?_ | refine GL.stepG rfl (ot_call hb_27 rfl (callOk fun w hh => kind_c (some ⟨b12, 0, none⟩) 1 1 [69] w (hh.ro (k := 0) rfl) rfl (by decide)) rfl fun _ _ => ?_)
  first | refine GL.skipG rfl rfl ?_ | refine GL.skipU rfl rfl ?_ | refine GL.valT rfl (rv_to (v' := .bool true) (rv_eq8 (b := 69) rfl rfl) (by exact congrArg Value.bool (by decide))) rfl ?_ | refine GL.valG rfl (fun hb => rv_to (v' := .bool true) (rv_eq8 (b := 69) (by first | exact evb rfl hb | rfl) (by first | exact evb rfl hb | rfl)) (by exact congrArg Value.bool (by decide))) rfl ?_
  refine GL.val ((by first | exact rv_andT rfl rfl rfl | exact rv_andF rfl rfl rfl | exact rv_pickAnd rfl rfl rfl)) rfl ?_
  refine GL.val (rv_move rfl) rfl ?_
  first | refine GL.skipG rfl rfl ?_ | refine GL.skipU rfl rfl ?_ | refine GL.stepG rfl (ot_buildSlice ei_28 rfl rfl rfl rfl rfl rfl fun b18 => ?_)
  first | refine GL.skipG rfl rfl ?_ | refine GL.skipU rfl rfl ?_ | refine GL.stepG rfl (ot_mark (k := 0) Try.underlying28 Try.underlying5 rfl rfl rfl ?_)
  first | refine GL.skipG rfl rfl ?_ | refine GL.skipU rfl rfl ?_ | refine GL.stepG rfl (ot_call hb_27 rfl (callOk fun w hh => kind_c (some ⟨b18, 0, none⟩) 2 2 [69, 69] w (hh.ro (k := 0) rfl) rfl (by decide)) rfl fun _ _ => ?_)
  first | refine GL.skipG rfl rfl ?_ | refine GL.skipU rfl rfl ?_ | refine GL.valT rfl (rv_to (v' := .bool true) (rv_eq8 (b := 0) rfl rfl) (by exact congrArg Value.bool (by decide))) rfl ?_ | refine GL.valG rfl (fun hb => rv_to (v' := .bool true) (rv_eq8 (b := 0) (by first | exact evb rfl hb | rfl) (by first | exact evb rfl hb | rfl)) (by exact congrArg Value.bool (by decide))) rfl ?_
  refine GL.val ((by first | exact rv_andT rfl rfl rfl | exact rv_andF rfl rfl rfl | exact rv_pickAnd rfl rfl rfl)) rfl ?_
  refine GL.val (rv_move rfl) rfl ?_
  first | refine GL.skipG rfl rfl ?_ | refine GL.skipU rfl rfl ?_ | refine GL.stepG rfl (ot_buildSlice ei_28 rfl rfl rfl rfl rfl rfl fun b24 => ?_)
  first | refine GL.skipG rfl rfl ?_ | refine GL.skipU rfl rfl ?_ | refine GL.stepG rfl (ot_mark (k := 0) Try.underlying28 Try.underlying5 rfl rfl rfl ?_)
  first | refine GL.skipG rfl rfl ?_ | refine GL.skipU rfl rfl ?_ | refine GL.stepG rfl (ot_call hb_47 rfl (callOk fun w hh => of_c 3 3 (some ⟨b24, 0, none⟩) ([97, 98, 99] : Sh.B) w (hh.ro (k := 0) rfl) rfl (by decide) (by decide)) rfl fun _ _ => ?_)
  first | refine GL.skipG rfl rfl ?_ | refine GL.skipU rfl rfl ?_ | refine GL.stepG rfl (ot_buildSlice ei_28 rfl rfl rfl rfl rfl rfl fun b27 => ?_)
  first | refine GL.skipG rfl rfl ?_ | refine GL.skipU rfl rfl ?_ | refine GL.stepG rfl (ot_mark (k := 0) Try.underlying28 Try.underlying5 rfl rfl rfl ?_)
  first | refine GL.skipG rfl rfl ?_ | refine GL.skipU rfl rfl ?_ | refine GL.stepG rfl (ot_call hb_35 rfl (callOk fun w hh => rsum_c 3 3 (some ⟨b27, 0, none⟩) ([97, 98, 99] : Sh.B) w (hh.ro (k := 0) rfl) rfl (by decide)) rfl fun _ _ => ?_)
  first | refine GL.skipG rfl rfl ?_ | refine GL.skipU rfl rfl ?_ | refine GL.valT rfl (rv_to (v' := .bool true) (rv_eq24 rfl rfl (Sh.sum_len _) (Sh.sum_len _)) (by simp)) rfl ?_ | refine GL.valG rfl (fun hb => rv_to (v' := .bool true) (rv_eq24 (by first | exact evb rfl hb | rfl) (by first | exact evb rfl hb | rfl) (Sh.sum_len _) (Sh.sum_len _)) (by simp)) rfl ?_
  refine GL.val ((by first | exact rv_andT rfl rfl rfl | exact rv_andF rfl rfl rfl | exact rv_pickAnd rfl rfl rfl)) rfl ?_
  refine GL.val (rv_assign rfl) rfl ?_
  refine GL.nil ?_
  refine GX.then ?_
  refine GC.ret ?_
  refine GX.ret1 rfl (RR.tmp rfl) ?_
  exact fun w9 h => ⟨(), rfl, by
      have h := h.sel [] rfl rfl
      exact h, trivial⟩
set_option maxRecDepth 100000 in
set_option maxHeartbeats 1000000 in
theorem roots_law (e : UInt64) (p t z : Sh.B) (hp : p.length = 32) (ht : t.length = 32) (hz : z.length = 32) (e1 : UInt64) (p1 t1 z1 : Sh.B) (hp1 : p1.length = 32) (ht1 : t1.length = 32) (hz1 : z1.length = 32) (w : World) : Calls Try.prog 3 [.agg (rcell e p t z).toArray, .agg (rcell e1 p1 t1 z1).toArray].toArray w fun e w' => ∃ _g : Unit, e = .returned (.bool true) ∧ St noB w w' [] ∧ True := by
  refine GC.calls Try.func3 rfl rfl (St.begin _) ?_
  refine GC.seq ?_
  refine GC.reg ?_
  refine GL.step (ot_box rfl rfl rfl fun b2 => ?_)
  refine GL.step (ot_box rfl rfl rfl fun b3 => ?_)
  refine GL.val (rv_assign rfl) rfl ?_
  refine GL.nil ?_
  refine GX.then ?_
  refine GC.seq ?_
  refine GC.draw 13 [0, 1] mo_ ?_
  refine GD.read (i := 0) rfl (rv_loadAL ag_26 rfl (by first | exact Hd.cellsAll (k := 1) rfl | exact Hd.cells (k := 1) rfl rfl) (by exact sz_26) (by first | (simp [ws8_len, rcell, hp, ht, hz, hp1, ht1, hz1]; done) | rfl)) (by kernel_rfl) (by repeat (first | exact noPanicPut_body | exact noPanicPut_cut | exact noPanicPut_cutE | refine noPanicPut_then ?_ | refine noPanicPut_blk ?_)) ?_
  refine GD.read (i := 2) rfl (rv_loadAL ag_26 rfl (by first | exact Hd.cellsAll (k := 0) rfl | exact Hd.cells (k := 0) rfl rfl) (by exact sz_26) (by first | (simp [ws8_len, rcell, hp, ht, hz, hp1, ht1, hz1]; done) | rfl)) (by kernel_rfl) (by repeat (first | exact noPanicPut_body | exact noPanicPut_cut | exact noPanicPut_cutE | refine noPanicPut_then ?_ | refine noPanicPut_blk ?_)) ?_
  refine GD.read (i := 5) rfl (rv_loadAL ag_26 rfl (by first | exact Hd.cellsAll (k := 1) rfl | exact Hd.cells (k := 1) rfl rfl) (by exact sz_26) (by first | (simp [ws8_len, rcell, hp, ht, hz, hp1, ht1, hz1]; done) | rfl)) (by kernel_rfl) (by repeat (first | exact noPanicPut_body | exact noPanicPut_cut | exact noPanicPut_cutE | refine noPanicPut_then ?_ | refine noPanicPut_blk ?_)) ?_
  refine GD.read (i := 6) rfl (rv_loadAL ag_26 rfl (by first | exact Hd.cellsAll (k := 0) rfl | exact Hd.cells (k := 0) rfl rfl) (by exact sz_26) (by first | (simp [ws8_len, rcell, hp, ht, hz, hp1, ht1, hz1]; done) | rfl)) (by kernel_rfl) (by repeat (first | exact noPanicPut_body | exact noPanicPut_cut | exact noPanicPut_cutE | refine noPanicPut_then ?_ | refine noPanicPut_blk ?_)) ?_
  refine GD.pure (i := 7) rfl (fun _ _ => rv_eq26 rfl rfl hp ht hz hp1 ht1 hz1) (by kernel_rfl) (by repeat (first | exact noPanicPut_body | exact noPanicPut_cut | exact noPanicPut_cutE | refine noPanicPut_then ?_ | refine noPanicPut_blk ?_)) ?_
  refine GD.step (i := 1) (by kernel_rfl) rfl (ot_call hb_14 rfl (callOk fun w hh => root_c e p t z w hp ht hz) rfl fun g6 h6 => ⟨.inr fun _ h => h.pk [1, 2], ?_⟩)
  refine GD.step (i := 3) (by kernel_rfl) rfl (ot_call hb_14 rfl (callOk fun w hh => root_c e1 p1 t1 z1 w hp1 ht1 hz1) rfl fun g8 h8 => ⟨.inr fun _ h => h.pk [2, 3], ?_⟩)
  refine GD.step (i := 4) (by kernel_rfl) rfl (ot_call hb_13 rfl (callOk fun w hh => sameb_c g6.1 g8.1 g6.2 g8.2 _ _ (rbytes e p t z) (rbytes e1 p1 t1 z1) w (hh.ro (k := 1) rfl) (hh.ro (k := 0) rfl) rfl rfl) rfl fun _ _ => ⟨.inr fun _ h => h.pk [2, 3], ?_⟩)
  refine GD.pure (i := 8) rfl (fun _ _ => rv_to (v' := .bool true) (rv_eqB rfl rfl (run_eqBool Try.underlying4)) (by simp [rbytes_inj hp ht hz hp1 ht1 hz1])) (by kernel_rfl) (by repeat (first | exact noPanicPut_body | exact noPanicPut_cut | exact noPanicPut_cutE | refine noPanicPut_then ?_ | refine noPanicPut_blk ?_)) ?_
  refine GD.pure (i := 9) rfl (fun _ _ => rv_move rfl) (by kernel_rfl) (by repeat (first | exact noPanicPut_body | exact noPanicPut_cut | exact noPanicPut_cutE | refine noPanicPut_then ?_ | refine noPanicPut_blk ?_)) ?_
  first | refine GD.skipG (i := 10) rfl rfl (by kernel_rfl) (by repeat (first | exact noPanicPut_body | exact noPanicPut_cut | exact noPanicPut_cutE | refine noPanicPut_then ?_ | refine noPanicPut_blk ?_)) ?_ | refine GD.stepG (i := 10) (by kernel_rfl) rfl rfl (ot_call hb_15 rfl (callOk fun w hh => works_c w) rfl fun _ _ => ⟨.inr fun _ h => h.pk [2, 3], ?_⟩)
  refine GD.pure (i := 11) rfl (fun _ _ => (by first | exact rv_andT rfl rfl rfl | exact rv_andF rfl rfl rfl | exact rv_pickAnd rfl rfl rfl)) (by kernel_rfl) (by repeat (first | exact noPanicPut_body | exact noPanicPut_cut | exact noPanicPut_cutE | refine noPanicPut_then ?_ | refine noPanicPut_blk ?_)) ?_
  refine GD.pure (i := 12) rfl (fun _ _ => rv_assign rfl) (by kernel_rfl) (by repeat (first | exact noPanicPut_body | exact noPanicPut_cut | exact noPanicPut_cutE | refine noPanicPut_then ?_ | refine noPanicPut_blk ?_)) ?_
  refine GD.done (by kernel_rfl) ?_
  refine GX.then ?_
  refine GC.ret ?_
  refine GX.ret1 rfl (RR.tmp rfl) ?_
  exact fun w9 h => ⟨(), rfl, by
      have h := h.sel [] rfl rfl
      exact h, trivial⟩
set_option maxRecDepth 100000 in
set_option maxHeartbeats 1000000 in
theorem bytes_law (x y : Sh.B) (hx : x.length = 32) (hy : y.length = 32) (nm : ByteArray) (key : Sh.B) (kA : Option Addr) (kc : Nat) (ser : UInt64) (e : UInt64) (p t z : Sh.B) (hp : p.length = 32) (ht : t.length = 32) (hz : z.length = 32) (w : World) (hk : SlR w kA (byts key)) : Calls Try.prog 5 [.agg (ws8 x).toArray, .agg (ws8 y).toArray, .agg (bcell nm key kA kc ser).toArray, .agg (rcell e p t z).toArray].toArray w fun e w' => ∃ _g : Unit, e = .returned (.bool true) ∧ St noB w w' [] ∧ True := by
  refine GC.calls Try.func5 rfl rfl (St.begin _) ?_
  refine GC.seq ?_
  refine GC.reg ?_
  refine GL.step (ot_box rfl rfl rfl fun b4 => ?_)
  refine GL.step (ot_box rfl rfl rfl fun b5 => ?_)
  refine GL.step (ot_box rfl rfl rfl fun b6 => ?_)
  refine GL.step (ot_box rfl rfl rfl fun b7 => ?_)
  refine GL.val (rv_assign rfl) rfl ?_
  refine GL.nil ?_
  refine GX.then ?_
  refine GC.seq ?_
  refine GC.seq ?_
  refine GC.reg ?_
  refine GL.val (rv_loadAL ag_34 rfl (by first | exact Hd.cellsAll (k := 1) rfl | exact Hd.cells (k := 1) rfl rfl) (by exact sz_34) (by first | (simp [ws8_len, hx, hy, rcell, hp, ht, hz]; done) | rfl)) rfl ?_
  refine GL.step (ot_call hb_16 rfl (callOk fun w hh => few_c nm key kA kc ser w) rfl fun _ _ => ?_)
  refine GL.val (rv_not rfl) rfl ?_
  refine GL.nil ?_
  refine GX.then ?_
  first | refine GC.condP rfl (fun c12 => ?_) (fun c12 => ?_) | refine GC.cond rfl (fun c12 => ?_) (fun c12 => ?_)
  · refine GC.seq ?_
    refine GC.reg ?_
    refine GL.step (ot_call hb_15 rfl (callOk fun w hh => works_c w) rfl fun _ _ => ?_)
    refine GL.val (rv_assign rfl) rfl ?_
    refine GL.nil ?_
    refine GX.then ?_
    refine GC.ret ?_
    refine GX.then_ret ?_
    refine GX.ret1 rfl (RR.tmp rfl) ?_
    exact fun w9 h => ⟨(), rfl, by
        have h := h.sel [] rfl rfl
        exact h, trivial⟩
  · have hf : nm.size ≤ 2000 ∧ key.length ≤ 2000 := by simpa using c12
    obtain ⟨hf1, hf2⟩ := hf
    refine GC.skip ?_
    refine GX.then ?_
    refine GC.seq ?_
    refine GC.draw 17 [0, 1, 2, 3] mo_ ?_
    refine GD.read (i := 0) rfl (rv_loadAL ag_24 rfl (by first | exact Hd.cellsAll (k := 3) rfl | exact Hd.cells (k := 3) rfl rfl) (by exact sz_24) (by first | (simp [ws8_len, hx, hy, rcell, hp, ht, hz]; done) | rfl)) (by kernel_rfl) (by repeat (first | exact noPanicPut_body | exact noPanicPut_cut | exact noPanicPut_cutE | refine noPanicPut_then ?_ | refine noPanicPut_blk ?_)) ?_
    refine GD.read (i := 1) rfl (rv_loadAL ag_24 rfl (by first | exact Hd.cellsAll (k := 2) rfl | exact Hd.cells (k := 2) rfl rfl) (by exact sz_24) (by first | (simp [ws8_len, hx, hy, rcell, hp, ht, hz]; done) | rfl)) (by kernel_rfl) (by repeat (first | exact noPanicPut_body | exact noPanicPut_cut | exact noPanicPut_cutE | refine noPanicPut_then ?_ | refine noPanicPut_blk ?_)) ?_
    refine GD.read (i := 3) rfl (rv_loadAL ag_24 rfl (by first | exact Hd.cellsAll (k := 3) rfl | exact Hd.cells (k := 3) rfl rfl) (by exact sz_24) (by first | (simp [ws8_len, hx, hy, rcell, hp, ht, hz]; done) | rfl)) (by kernel_rfl) (by repeat (first | exact noPanicPut_body | exact noPanicPut_cut | exact noPanicPut_cutE | refine noPanicPut_then ?_ | refine noPanicPut_blk ?_)) ?_
    refine GD.read (i := 4) rfl (rv_loadAL ag_24 rfl (by first | exact Hd.cellsAll (k := 2) rfl | exact Hd.cells (k := 2) rfl rfl) (by exact sz_24) (by first | (simp [ws8_len, hx, hy, rcell, hp, ht, hz]; done) | rfl)) (by kernel_rfl) (by repeat (first | exact noPanicPut_body | exact noPanicPut_cut | exact noPanicPut_cutE | refine noPanicPut_then ?_ | refine noPanicPut_blk ?_)) ?_
    refine GD.step (i := 2) (by kernel_rfl) rfl (ot_call hb_17 rfl (callOk fun w hh => leaf_c x y w hx hy) rfl fun g16 h16 => ⟨.inr fun _ h => h.pk [1, 2, 3, 4], ?_⟩)
    refine GD.step (i := 5) (by kernel_rfl) rfl (ot_call hb_21 rfl (callOk fun w hh => rleaf_c x y w hx hy) rfl fun g19 h19 => ⟨.inr fun _ h => h.pk [2, 3, 4, 5], ?_⟩)
    refine GD.step (i := 6) (by kernel_rfl) rfl (ot_call hb_13 rfl (callOk fun w hh => sameb_t g16.1 g19.1 g16.2 g19.2 _ _ (76 :: (x ++ y)) w (hh.ro (k := 1) rfl) (hh.ro (k := 0) rfl) rfl rfl) rfl fun _ _ => ⟨.inr fun _ h => h.pk [2, 3, 4, 5], ?_⟩)
    refine GD.pure (i := 7) rfl (fun _ _ => rv_move rfl) (by kernel_rfl) (by repeat (first | exact noPanicPut_body | exact noPanicPut_cut | exact noPanicPut_cutE | refine noPanicPut_then ?_ | refine noPanicPut_blk ?_)) ?_
    first | refine GD.skipG (i := 8) rfl rfl (by kernel_rfl) (by repeat (first | exact noPanicPut_body | exact noPanicPut_cut | exact noPanicPut_cutE | refine noPanicPut_then ?_ | refine noPanicPut_blk ?_)) ?_ | refine GD.readG (i := 8) rfl rfl (rv_loadAL ag_24 rfl (by first | exact Hd.cellsAll (k := 3) rfl | exact Hd.cells (k := 3) rfl rfl) (by exact sz_24) (by first | (simp [ws8_len, hx, hy, rcell, hp, ht, hz]; done) | rfl)) (by kernel_rfl) (by repeat (first | exact noPanicPut_body | exact noPanicPut_cut | exact noPanicPut_cutE | refine noPanicPut_then ?_ | refine noPanicPut_blk ?_)) ?_
    first | refine GD.skipG (i := 9) rfl rfl (by kernel_rfl) (by repeat (first | exact noPanicPut_body | exact noPanicPut_cut | exact noPanicPut_cutE | refine noPanicPut_then ?_ | refine noPanicPut_blk ?_)) ?_ | refine GD.readG (i := 9) rfl rfl (rv_loadAL ag_24 rfl (by first | exact Hd.cellsAll (k := 2) rfl | exact Hd.cells (k := 2) rfl rfl) (by exact sz_24) (by first | (simp [ws8_len, hx, hy, rcell, hp, ht, hz]; done) | rfl)) (by kernel_rfl) (by repeat (first | exact noPanicPut_body | exact noPanicPut_cut | exact noPanicPut_cutE | refine noPanicPut_then ?_ | refine noPanicPut_blk ?_)) ?_
    first | refine GD.skipG (i := 11) rfl rfl (by kernel_rfl) (by repeat (first | exact noPanicPut_body | exact noPanicPut_cut | exact noPanicPut_cutE | refine noPanicPut_then ?_ | refine noPanicPut_blk ?_)) ?_ | refine GD.readG (i := 11) rfl rfl (rv_loadAL ag_24 rfl (by first | exact Hd.cellsAll (k := 3) rfl | exact Hd.cells (k := 3) rfl rfl) (by exact sz_24) (by first | (simp [ws8_len, hx, hy, rcell, hp, ht, hz]; done) | rfl)) (by kernel_rfl) (by repeat (first | exact noPanicPut_body | exact noPanicPut_cut | exact noPanicPut_cutE | refine noPanicPut_then ?_ | refine noPanicPut_blk ?_)) ?_
    first | refine GD.skipG (i := 12) rfl rfl (by kernel_rfl) (by repeat (first | exact noPanicPut_body | exact noPanicPut_cut | exact noPanicPut_cutE | refine noPanicPut_then ?_ | refine noPanicPut_blk ?_)) ?_ | refine GD.readG (i := 12) rfl rfl (rv_loadAL ag_24 rfl (by first | exact Hd.cellsAll (k := 2) rfl | exact Hd.cells (k := 2) rfl rfl) (by exact sz_24) (by first | (simp [ws8_len, hx, hy, rcell, hp, ht, hz]; done) | rfl)) (by kernel_rfl) (by repeat (first | exact noPanicPut_body | exact noPanicPut_cut | exact noPanicPut_cutE | refine noPanicPut_then ?_ | refine noPanicPut_blk ?_)) ?_
    first | refine GD.skipG (i := 10) rfl rfl (by kernel_rfl) (by repeat (first | exact noPanicPut_body | exact noPanicPut_cut | exact noPanicPut_cutE | refine noPanicPut_then ?_ | refine noPanicPut_blk ?_)) ?_ | refine GD.stepG (i := 10) (by kernel_rfl) rfl rfl (ot_call hb_18 rfl (callOk fun w hh => node_c x y w hx hy) rfl fun g24 h24 => ⟨.inr fun _ h => h.pk [3, 4, 5, 6], ?_⟩)
    first | refine GD.skipG (i := 13) rfl rfl (by kernel_rfl) (by repeat (first | exact noPanicPut_body | exact noPanicPut_cut | exact noPanicPut_cutE | refine noPanicPut_then ?_ | refine noPanicPut_blk ?_)) ?_ | refine GD.stepG (i := 13) (by kernel_rfl) rfl rfl (ot_call hb_22 rfl (callOk fun w hh => rnode_c x y w hx hy) rfl fun g27 h27 => ⟨.inr fun _ h => h.pk [4, 5, 6, 7], ?_⟩)
    first | refine GD.skipG (i := 14) rfl rfl (by kernel_rfl) (by repeat (first | exact noPanicPut_body | exact noPanicPut_cut | exact noPanicPut_cutE | refine noPanicPut_then ?_ | refine noPanicPut_blk ?_)) ?_ | refine GD.stepG (i := 14) (by kernel_rfl) rfl rfl (ot_call hb_13 rfl (callOk fun w hh => sameb_t g24.1 g27.1 g24.2 g27.2 _ _ (78 :: (x ++ y)) w (hh.ro (k := 1) rfl) (hh.ro (k := 0) rfl) rfl rfl) rfl fun _ _ => ⟨.inr fun _ h => h.pk [4, 5, 6, 7], ?_⟩)
    refine GD.pure (i := 15) rfl (fun _ _ => (by first | exact rv_andT rfl rfl rfl | exact rv_andF rfl rfl rfl | exact rv_pickAnd rfl rfl rfl)) (by kernel_rfl) (by repeat (first | exact noPanicPut_body | exact noPanicPut_cut | exact noPanicPut_cutE | refine noPanicPut_then ?_ | refine noPanicPut_blk ?_)) ?_
    refine GD.pure (i := 16) rfl (fun _ _ => rv_assign rfl) (by kernel_rfl) (by repeat (first | exact noPanicPut_body | exact noPanicPut_cut | exact noPanicPut_cutE | refine noPanicPut_then ?_ | refine noPanicPut_blk ?_)) ?_
    refine GD.done (by kernel_rfl) ?_
    refine GX.then ?_
    refine GC.seq ?_
    refine GC.draw 26 [0, 1, 2, 3, 4, 5, 6, 7] mo_ ?_
    refine GD.pure (i := 0) rfl (fun _ _ => rv_move rfl) (by kernel_rfl) (by repeat (first | exact noPanicPut_body | exact noPanicPut_cut | exact noPanicPut_cutE | refine noPanicPut_then ?_ | refine noPanicPut_blk ?_)) ?_
    refine GD.pure (i := 1) rfl (fun _ _ => rv_move rfl) (by kernel_rfl) (by repeat (first | exact noPanicPut_body | exact noPanicPut_cut | exact noPanicPut_cutE | refine noPanicPut_then ?_ | refine noPanicPut_blk ?_)) ?_
    first | refine GD.skipG (i := 2) rfl rfl (by kernel_rfl) (by repeat (first | exact noPanicPut_body | exact noPanicPut_cut | exact noPanicPut_cutE | refine noPanicPut_then ?_ | refine noPanicPut_blk ?_)) ?_ | refine GD.readG (i := 2) rfl rfl (rv_loadAL ag_24 rfl (by first | exact Hd.cellsAll (k := 7) rfl | exact Hd.cells (k := 7) rfl rfl) (by exact sz_24) (by first | (simp [ws8_len, hx, hy, rcell, hp, ht, hz]; done) | rfl)) (by kernel_rfl) (by repeat (first | exact noPanicPut_body | exact noPanicPut_cut | exact noPanicPut_cutE | refine noPanicPut_then ?_ | refine noPanicPut_blk ?_)) ?_
    first | refine GD.skipG (i := 3) rfl rfl (by kernel_rfl) (by repeat (first | exact noPanicPut_body | exact noPanicPut_cut | exact noPanicPut_cutE | refine noPanicPut_then ?_ | refine noPanicPut_blk ?_)) ?_ | refine GD.readG (i := 3) rfl rfl (rv_loadAL ag_34 rfl (by first | exact Hd.cellsAll (k := 5) rfl | exact Hd.cells (k := 5) rfl rfl) (by exact sz_34) (by first | (simp [ws8_len, hx, hy, rcell, hp, ht, hz]; done) | rfl)) (by kernel_rfl) (by repeat (first | exact noPanicPut_body | exact noPanicPut_cut | exact noPanicPut_cutE | refine noPanicPut_then ?_ | refine noPanicPut_blk ?_)) ?_
    first | refine GD.skipG (i := 5) rfl rfl (by kernel_rfl) (by repeat (first | exact noPanicPut_body | exact noPanicPut_cut | exact noPanicPut_cutE | refine noPanicPut_then ?_ | refine noPanicPut_blk ?_)) ?_ | refine GD.readG (i := 5) rfl rfl (rv_loadAL ag_24 rfl (by first | exact Hd.cellsAll (k := 7) rfl | exact Hd.cells (k := 7) rfl rfl) (by exact sz_24) (by first | (simp [ws8_len, hx, hy, rcell, hp, ht, hz]; done) | rfl)) (by kernel_rfl) (by repeat (first | exact noPanicPut_body | exact noPanicPut_cut | exact noPanicPut_cutE | refine noPanicPut_then ?_ | refine noPanicPut_blk ?_)) ?_
    first | refine GD.skipG (i := 6) rfl rfl (by kernel_rfl) (by repeat (first | exact noPanicPut_body | exact noPanicPut_cut | exact noPanicPut_cutE | refine noPanicPut_then ?_ | refine noPanicPut_blk ?_)) ?_ | refine GD.readG (i := 6) rfl rfl (rv_loadAL ag_34 rfl (by first | exact Hd.cellsAll (k := 5) rfl | exact Hd.cells (k := 5) rfl rfl) (by exact sz_34) (by first | (simp [ws8_len, hx, hy, rcell, hp, ht, hz]; done) | rfl)) (by kernel_rfl) (by repeat (first | exact noPanicPut_body | exact noPanicPut_cut | exact noPanicPut_cutE | refine noPanicPut_then ?_ | refine noPanicPut_blk ?_)) ?_
    first | refine GD.skipG (i := 4) rfl rfl (by kernel_rfl) (by repeat (first | exact noPanicPut_body | exact noPanicPut_cut | exact noPanicPut_cutE | refine noPanicPut_then ?_ | refine noPanicPut_blk ?_)) ?_ | refine GD.stepG (i := 4) (by kernel_rfl) rfl rfl (ot_call hb_20 rfl (callOk fun w hh => value_c x nm key kA kc ser w hx (hh.rd0n hk) (by omega) (by omega)) rfl fun g34 h34 => ⟨.inr fun _ h => h.pk [1, 2, 3, 4, 5, 6, 7, 8], ?_⟩)
    first | refine GD.skipG (i := 7) rfl rfl (by kernel_rfl) (by repeat (first | exact noPanicPut_body | exact noPanicPut_cut | exact noPanicPut_cutE | refine noPanicPut_then ?_ | refine noPanicPut_blk ?_)) ?_ | refine GD.stepG (i := 7) (by kernel_rfl) rfl rfl (ot_call hb_23 rfl (callOk fun w hh => rvalue_c x nm key kA kc ser w hx (hh.rd0n hk) (by omega) (by omega)) rfl fun g37 h37 => ⟨.inr fun _ h => h.pk [2, 3, 4, 5, 6, 7, 8, 9], ?_⟩)
    first | refine GD.skipG (i := 8) rfl rfl (by kernel_rfl) (by repeat (first | exact noPanicPut_body | exact noPanicPut_cut | exact noPanicPut_cutE | refine noPanicPut_then ?_ | refine noPanicPut_blk ?_)) ?_ | refine GD.stepG (i := 8) (by kernel_rfl) rfl rfl (ot_call hb_13 rfl (callOk fun w hh => sameb_t g34.1 g37.1 g34.2 g37.2 _ _ (vbytes x nm key ser) w (hh.ro (k := 1) rfl) (hh.ro (k := 0) rfl) rfl rfl) rfl fun _ _ => ⟨.inr fun _ h => h.pk [2, 3, 4, 5, 6, 7, 8, 9], ?_⟩)
    refine GD.pure (i := 9) rfl (fun _ _ => (by first | exact rv_andT rfl rfl rfl | exact rv_andF rfl rfl rfl | exact rv_pickAnd rfl rfl rfl)) (by kernel_rfl) (by repeat (first | exact noPanicPut_body | exact noPanicPut_cut | exact noPanicPut_cutE | refine noPanicPut_then ?_ | refine noPanicPut_blk ?_)) ?_
    refine GD.pure (i := 10) rfl (fun _ _ => rv_move rfl) (by kernel_rfl) (by repeat (first | exact noPanicPut_body | exact noPanicPut_cut | exact noPanicPut_cutE | refine noPanicPut_then ?_ | refine noPanicPut_blk ?_)) ?_
    first | refine GD.skipG (i := 11) rfl rfl (by kernel_rfl) (by repeat (first | exact noPanicPut_body | exact noPanicPut_cut | exact noPanicPut_cutE | refine noPanicPut_then ?_ | refine noPanicPut_blk ?_)) ?_ | refine GD.readG (i := 11) rfl rfl (rv_loadAL ag_26 rfl (by first | exact Hd.cellsAll (k := 4) rfl | exact Hd.cells (k := 4) rfl rfl) (by exact sz_26) (by first | (simp [ws8_len, hx, hy, rcell, hp, ht, hz]; done) | rfl)) (by kernel_rfl) (by repeat (first | exact noPanicPut_body | exact noPanicPut_cut | exact noPanicPut_cutE | refine noPanicPut_then ?_ | refine noPanicPut_blk ?_)) ?_
    first | refine GD.skipG (i := 13) rfl rfl (by kernel_rfl) (by repeat (first | exact noPanicPut_body | exact noPanicPut_cut | exact noPanicPut_cutE | refine noPanicPut_then ?_ | refine noPanicPut_blk ?_)) ?_ | refine GD.readG (i := 13) rfl rfl (rv_loadAL ag_26 rfl (by first | exact Hd.cellsAll (k := 4) rfl | exact Hd.cells (k := 4) rfl rfl) (by exact sz_26) (by first | (simp [ws8_len, hx, hy, rcell, hp, ht, hz]; done) | rfl)) (by kernel_rfl) (by repeat (first | exact noPanicPut_body | exact noPanicPut_cut | exact noPanicPut_cutE | refine noPanicPut_then ?_ | refine noPanicPut_blk ?_)) ?_
    first | refine GD.skipG (i := 12) rfl rfl (by kernel_rfl) (by repeat (first | exact noPanicPut_body | exact noPanicPut_cut | exact noPanicPut_cutE | refine noPanicPut_then ?_ | refine noPanicPut_blk ?_)) ?_ | refine GD.stepG (i := 12) (by kernel_rfl) rfl rfl (ot_call hb_14 rfl (callOk fun w hh => root_c e p t z w hp ht hz) rfl fun g42 h42 => ⟨.inr fun _ h => h.pk [3, 4, 5, 6, 7, 8, 9, 10], ?_⟩)
    first | refine GD.skipG (i := 14) rfl rfl (by kernel_rfl) (by repeat (first | exact noPanicPut_body | exact noPanicPut_cut | exact noPanicPut_cutE | refine noPanicPut_then ?_ | refine noPanicPut_blk ?_)) ?_ | refine GD.stepG (i := 14) (by kernel_rfl) rfl rfl (ot_call hb_24 rfl (callOk fun w hh => rroot_c e p t z w hp ht hz) rfl fun g44 h44 => ⟨.inr fun _ h => h.pk [4, 5, 6, 7, 8, 9, 10, 11], ?_⟩)
    first | refine GD.skipG (i := 15) rfl rfl (by kernel_rfl) (by repeat (first | exact noPanicPut_body | exact noPanicPut_cut | exact noPanicPut_cutE | refine noPanicPut_then ?_ | refine noPanicPut_blk ?_)) ?_ | refine GD.stepG (i := 15) (by kernel_rfl) rfl rfl (ot_call hb_13 rfl (callOk fun w hh => sameb_t g42.1 g44.1 g42.2 g44.2 _ _ (rbytes e p t z) w (hh.ro (k := 1) rfl) (hh.ro (k := 0) rfl) rfl rfl) rfl fun _ _ => ⟨.inr fun _ h => h.pk [4, 5, 6, 7, 8, 9, 10, 11], ?_⟩)
    refine GD.pure (i := 16) rfl (fun _ _ => (by first | exact rv_andT rfl rfl rfl | exact rv_andF rfl rfl rfl | exact rv_pickAnd rfl rfl rfl)) (by kernel_rfl) (by repeat (first | exact noPanicPut_body | exact noPanicPut_cut | exact noPanicPut_cutE | refine noPanicPut_then ?_ | refine noPanicPut_blk ?_)) ?_
    refine GD.pure (i := 17) rfl (fun _ _ => rv_move rfl) (by kernel_rfl) (by repeat (first | exact noPanicPut_body | exact noPanicPut_cut | exact noPanicPut_cutE | refine noPanicPut_then ?_ | refine noPanicPut_blk ?_)) ?_
    first | refine GD.skipG (i := 18) rfl rfl (by kernel_rfl) (by repeat (first | exact noPanicPut_body | exact noPanicPut_cut | exact noPanicPut_cutE | refine noPanicPut_then ?_ | refine noPanicPut_blk ?_)) ?_ | refine GD.stepG (i := 18) (by kernel_rfl) rfl rfl (ot_call hb_25 rfl (callOk fun w hh => empty_c w) rfl fun g48 h48 => ⟨.inr fun _ h => h.pk [5, 6, 7, 8, 9, 10, 11, 12], ?_⟩)
    first | refine GD.skipG (i := 19) rfl rfl (by kernel_rfl) (by repeat (first | exact noPanicPut_body | exact noPanicPut_cut | exact noPanicPut_cutE | refine noPanicPut_then ?_ | refine noPanicPut_blk ?_)) ?_ | refine GD.stepG (i := 19) (by kernel_rfl) rfl rfl (ot_call hb_26 rfl (callOk fun w hh => rempty_c w) rfl fun g49 h49 => ⟨.inr fun _ h => h.pk [6, 7, 8, 9, 10, 11, 12, 13], ?_⟩)
    first | refine GD.skipG (i := 20) rfl rfl (by kernel_rfl) (by repeat (first | exact noPanicPut_body | exact noPanicPut_cut | exact noPanicPut_cutE | refine noPanicPut_then ?_ | refine noPanicPut_blk ?_)) ?_ | refine GD.stepG (i := 20) (by kernel_rfl) rfl rfl (ot_call hb_13 rfl (callOk fun w hh => sameb_t g48.1 g49.1 g48.2 g49.2 _ _ ([69]) w (hh.ro (k := 1) rfl) (hh.ro (k := 0) rfl) rfl rfl) rfl fun _ _ => ⟨.inr fun _ h => h.pk [6, 7, 8, 9, 10, 11, 12, 13], ?_⟩)
    refine GD.pure (i := 21) rfl (fun _ _ => (by first | exact rv_andT rfl rfl rfl | exact rv_andF rfl rfl rfl | exact rv_pickAnd rfl rfl rfl)) (by kernel_rfl) (by repeat (first | exact noPanicPut_body | exact noPanicPut_cut | exact noPanicPut_cutE | refine noPanicPut_then ?_ | refine noPanicPut_blk ?_)) ?_
    refine GD.pure (i := 22) rfl (fun _ _ => rv_move rfl) (by kernel_rfl) (by repeat (first | exact noPanicPut_body | exact noPanicPut_cut | exact noPanicPut_cutE | refine noPanicPut_then ?_ | refine noPanicPut_blk ?_)) ?_
    first | refine GD.skipG (i := 23) rfl rfl (by kernel_rfl) (by repeat (first | exact noPanicPut_body | exact noPanicPut_cut | exact noPanicPut_cutE | refine noPanicPut_then ?_ | refine noPanicPut_blk ?_)) ?_ | refine GD.stepG (i := 23) (by kernel_rfl) rfl rfl (ot_call hb_15 rfl (callOk fun w hh => works_c w) rfl fun _ _ => ⟨.inr fun _ h => h.pk [6, 7, 8, 9, 10, 11, 12, 13], ?_⟩)
    refine GD.pure (i := 24) rfl (fun _ _ => (by first | exact rv_andT rfl rfl rfl | exact rv_andF rfl rfl rfl | exact rv_pickAnd rfl rfl rfl)) (by kernel_rfl) (by repeat (first | exact noPanicPut_body | exact noPanicPut_cut | exact noPanicPut_cutE | refine noPanicPut_then ?_ | refine noPanicPut_blk ?_)) ?_
    refine GD.pure (i := 25) rfl (fun _ _ => rv_assign rfl) (by kernel_rfl) (by repeat (first | exact noPanicPut_body | exact noPanicPut_cut | exact noPanicPut_cutE | refine noPanicPut_then ?_ | refine noPanicPut_blk ?_)) ?_
    refine GD.done (by kernel_rfl) ?_
    refine GX.then ?_
    refine GC.ret ?_
    refine GX.ret1 rfl (RR.tmp rfl) ?_
    exact fun w9 h => ⟨(), rfl, by
        have h := h.sel [] rfl rfl
        exact h, trivial⟩
end Go.Proofs.Ytaocclmdlpnjbaa
