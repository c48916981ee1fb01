import Derived.Test.YtaocclmdlpnjbaaQ
set_option linter.unusedVariables false
set_option linter.unusedSimpArgs false
namespace Go.Proofs.Ytaocclmdlpnjbaa
open Go Go.RowKit Go.Bz
theorem hb_31 : hasBody Try.prog 31 = true := by kernel_rfl
theorem hb_34 : hasBody Try.prog 34 = true := by kernel_rfl
section
variable {X : Cx} {L : List (Nat × Value)} {Fs : List Pc} {C : List (Nat × Value) → List Pc → Prop} {ty : TypeId} {pos : String} {af : Array Edge} {g : Option (Nat × Bool)}
/-- a slice of noughts -/
theorem ot_makeC {d t E by_ m : Nat} {xl xc : Operand} {z : Value} {zs : List Value} (hE : elemInfo X.P t = some (E, 1, by_)) (hz0 : zeroB X.P E = some z) (hzc : z.cells = #[z]) (el : ev L xl = some (.int .i64 (m : Int))) (ec : ev L xc = some (.int .i64 (m : Int))) (hm : m * by_ ≤ 1048576) (hm2 : m ≤ 1048576)
    (hzs : List.replicate m z = zs) (hd : Nat.ble (d + 1) X.n = true)
    (h : ∀ b, C ((d, .slice (some ⟨b, 0, none⟩) m m) :: L) (Pc.cl b zs E :: Fs)) : OT X ⟨some d, .makeSlice t xl xc, ty, pos, af, g⟩ L Fs C :=
  ot_eff (γ := Nat) (Φ := fun _ => True) (v := fun b => .slice (some ⟨b, 0, none⟩) m m) (H := fun b => Pc.cl b zs E :: Fs) (fun w a hs hf => by
    obtain ⟨inf, z', hu, hi, hz, hsz, hby', hzs', hpos⟩ := elemInfo_spec hE
    have hzz : z' = z := by
      unfold zeroB at hz0; rw [hi] at hz0; simp [hz] at hz0; exact hz0
    subst hzz hzs
    refine ⟨w.heap.size, w.alloc (.cells (List.replicate m z').toArray E), ?_, ?_, trivial⟩
    · have hwr : IntKind.i64.wrap (m : Int) = m := i64_small (by omega) (by omega)
      have hbm : ¬ ((inf.bytes : Int) * (m : Int) > 2 ^ 48) := by
        rw [hby']
        have h1 : ((by_ * m : Nat) : Int) ≤ 1048576 := by rw [Nat.mul_comm]; omega
        rw [Int.natCast_mul] at h1
        have h2 : (2 : Int) ^ 48 = 281474976710656 := by decide
        rw [h2]
        omega
      have hroom : ¬ (m * inf.bytes > roomBytes) := by
        rw [hby']; unfold roomBytes; omega
      have hcells : (Array.range m).map (z'.cells[· % z'.cells.size]!) = (List.replicate m z').toArray := by
        apply Array.ext
        · simp
        · intro i h1 h2
          simp [hzc, Nat.mod_one]
      have hzr := run_zero (P := X.P) hz0 w
      simp only [execOp, hf.ev el, hf.ev ec]
      have hrow : ∀ (cells : Array Value) (w : World), (newRow E cells).run X.P w = .ok ⟨w.heap.size, 0, none⟩ (w.alloc (.cells cells E)) := fun _ _ => rfl
      have hwr0 : IntKind.i64.wrap 0 = 0 := by decide
      have hnl : ¬ ((m : Int) < 0) := by omega
      have hbm' : ¬ (281474976710656 < (inf.bytes : Int) * (m : Int)) := by
        have h2 : (2 : Int) ^ 48 = 281474976710656 := by decide
        rw [h2] at hbm; omega
      by_cases h0 : m = 0
      · subst h0
        simp [Instr.makeSlice, run_underlying hu, asInt, asIntOf, typeInfo, hi, hwr0, Bz.run_sizeOf hi, hsz, askRoom, hroom, hrow, go_sem]
      · simp [Instr.makeSlice, run_underlying hu, asInt, asIntOf, typeInfo, hi, hwr, hbm', hnl, Bz.run_sizeOf hi, hsz, askRoom, hroom, h0, hzr, hrow, hcells, go_sem]
        exact congrArg (fun q => w.alloc (.cells q E)) (hcells.trans (by simp))
    · exact hs.alloc (List.replicate m z') E) hd fun b _ => h b
end
theorem mac_b (A : Option Addr) (l c : Nat) (key : Sh.B) (A2 : Option Addr) (n c2 : Nat) (ps : List Sp) (bs : Sh.B) (hbs : cat ps = bs) (w : World) (hR : SlR w A (byts key)) (hl : key.length = l) (hc : l ≤ c) (hbig : l < 70368744177664) (hR2 : SlR w A2 (sls ps)) (hP : ∀ q ∈ ps, SlR w q.2.1 (byts q.1)) (hPc : ∀ q ∈ ps, q.1.length ≤ q.2.2) (hn : ps.length = n) (hnb : n ≤ 1099511627776) (hpb : bs.length ≤ 1099511627776) : Calls Try.prog 31 [.slice A l c, .slice A2 n c2].toArray w fun e w' => ∃ _g : Unit, e = .returned (.agg (ws8 (mac key bs)).toArray) ∧ St noB w w' [] ∧ True := by
  subst hbs; exact mac_c A l c key A2 n c2 ps w hR hl hc hbig hR2 hP hPc hn hnb hpb
theorem same_b (v : Bool) (A A2 : Option Addr) (c d n m : Nat) (a b : Sh.B) (w : World) (hR : SlR w A (byts a)) (hR' : SlR w A2 (byts b)) (hl : a.length = n) (hl' : b.length = m) (hn : n < 4611686018427387904) (hm : m < 4611686018427387904) (hv : decide (a = b) = v) :
    Calls Try.prog 34 [.slice A n c, .slice A2 m d].toArray w fun e w' => ∃ _g : Unit, e = .returned (.bool v) ∧ St noB w w' [] ∧ True := by subst hv; exact same_c A A2 c d n m a b w hR hR' hl hl' hn hm
theorem long_b (v : Bool) (A : Option Addr) (n c : Nat) (w : World) (hv : decide (32768 < n) = v) : Calls Try.prog 29 [.slice A n c].toArray w fun e w' => ∃ _g : Unit, e = .returned (.bool v) ∧ St noB w w' [] ∧ True := by subst hv; exact long_c A n c w
theorem mac_sum {key : Sh.B} (h : 64 < key.length) (b : Sh.B) : mac (Sh.sum key) b = mac key b := by
  have e : kb (Sh.sum key) = kb key := by unfold kb; rw [kshort_long h, kshort_short (by rw [Sh.sum_len]; omega)]
  unfold mac; rw [e]
theorem mac_pad {key : Sh.B} {m : Nat} (h : key.length + m ≤ 64) (b : Sh.B) : mac (key ++ List.replicate m 0) b = mac key b := by
  have e : kb (key ++ List.replicate m 0) = kb key := by
    unfold kb
    rw [kshort_short (by simp; omega), kshort_short (by omega)]
    unfold kpad
    rw [List.append_assoc, List.replicate_append_replicate]
    congr 2
    simp; omega
  unfold mac; rw [e]
theorem cp_pad {key : Sh.B} {m : Nat} (h : key.length ≤ m) : repl (byts (List.replicate m 0)) 0 (byts key) = ws8 (key ++ List.replicate (m - key.length) 0) := by
  rw [repl_eq _ _ _ (by simp [byts]; omega), byts_ws, byts_ws, ws8_app, ws8_drop, Nat.zero_add, List.drop_replicate, ws8_len]; simp [ws8]
set_option maxRecDepth 100000 in
set_option maxHeartbeats 1000000 in
theorem check_c (A : Option Addr) (l c : Nat) (key : Sh.B) (x : Sh.B) (A2 : Option Addr) (n c2 : Nat) (ps : List Sp) (bs : Sh.B) (hbs : cat ps = bs) (w : World) (hx : x.length = 32) (hR : SlR w A (byts key)) (hl : key.length = l) (hc : l ≤ c) (hbig : l < 70368744177664) (hR2 : SlR w A2 (sls ps)) (hP : ∀ q ∈ ps, SlR w q.2.1 (byts q.1)) (hPc : ∀ q ∈ ps, q.1.length ≤ q.2.2) (hn : ps.length = n) (hnb : n ≤ 1099511627776) (hpb : bs.length ≤ 1099511627776) : Calls Try.prog 36 [.slice A l c, .agg (ws8 x).toArray, .slice A2 n c2].toArray w fun e w' => ∃ _g : Unit, e = .returned (.bool (decide (x = mac key bs))) ∧ St noB w w' [] ∧ True := by
  refine GC.calls Try.func36 rfl rfl (St.begin _) ?_
  refine GC.seq ?_
  refine GC.reg ?_
  refine GL.step (ot_box rfl rfl rfl fun b4 => ?_)
  refine GL.val (rv_assign rfl) rfl ?_
  refine GL.nil ?_
  refine GX.then ?_
  refine GC.seq ?_
  refine GC.reg ?_
  refine GL.val (rv_move rfl) rfl ?_
  refine GL.val (rv_move rfl) rfl ?_
  refine GL.step (ot_call hb_31 rfl (callOk fun w hh => mac_b A l c key A2 n c2 ps bs hbs w (hh.rd0n hR) hl hc hbig (hh.rd0n hR2) (fun q hq => hh.rd0n (hP q hq)) hPc hn hnb hpb) rfl fun _ _ => ?_)
  have hml := mac_len key bs
  generalize mac key bs = m1 at hml ⊢
  refine GL.step (ot_alloc (zs := ws8 (List.replicate 32 0)) zb_24 (rfl) rfl fun b7 => ?_)
  refine GL.step (ot_storeA (k := 0) rfl rfl rfl rfl (by exact sz_24) (by first | (first | (simp only [ws8_len, List.length_replicate, hx, hml]; done)) | rfl) (by first | (first | (simp only [ws8_len, List.length_replicate, hx, hml]; done)) | rfl) (by first | exact ws8_one _ | rfl) ?_)
  refine GL.nil ?_
  refine GX.then ?_
  refine GC.seq ?_
  refine GC.draw 4 [] mo_ ?_
  refine GD.pure (i := 0) rfl (fun _ _ => rv_to (v' := .slice (some ⟨b4, 0, none⟩) x.length 32) (rv_slA (E := 5) as_24 rfl rfl rfl 0 32 0 rfl rfl (by decide) (by decide) (by decide) rfl) (by rw [hx])) (by kernel_rfl) (by repeat (first | exact noPanicPut_body | exact noPanicPut_cut | exact noPanicPut_cutE | refine noPanicPut_then ?_ | refine noPanicPut_blk ?_)) ?_
  refine GD.pure (i := 1) rfl (fun _ _ => rv_to (v' := .slice (some ⟨b7, 0, none⟩) m1.length 32) (rv_slA (E := 5) as_24 rfl rfl rfl 0 32 0 rfl rfl (by decide) (by decide) (by decide) rfl) (by rw [hml])) (by kernel_rfl) (by repeat (first | exact noPanicPut_body | exact noPanicPut_cut | exact noPanicPut_cutE | refine noPanicPut_then ?_ | refine noPanicPut_blk ?_)) ?_
  refine GD.step (i := 2) (by kernel_rfl) rfl (ot_call hb_34 rfl (callOk fun w hh => same_c (some ⟨b4, 0, none⟩) (some ⟨b7, 0, none⟩) 32 32 _ _ x m1 w (.inr ⟨b4, 0, rfl, Hd.cellsAll (k := 1) rfl w hh⟩) (.inr ⟨b7, 0, rfl, Hd.cellsAll (k := 0) rfl w hh⟩) rfl rfl (by omega) (by omega)) rfl fun _ _ => ⟨.inr fun _ h => h.pk [], ?_⟩)
  refine GD.pure (i := 3) rfl (fun _ _ => rv_assign rfl) (by kernel_rfl) (by repeat (first | exact noPanicPut_body | exact noPanicPut_cut | exact noPanicPut_cutE | refine noPanicPut_then ?_ | refine noPanicPut_blk ?_)) ?_
  refine GD.done (by kernel_rfl) ?_
  refine GX.then ?_
  refine GC.ret ?_
  refine GX.ret1 rfl (RR.tmp rfl) ?_
  exact fun w9 h => ⟨(), rfl, by
      have h := h.sel [] rfl rfl
      exact h, trivial⟩
theorem check_b (v : Bool) (A : Option Addr) (l c : Nat) (key : Sh.B) (x : Sh.B) (A2 : Option Addr) (n c2 : Nat) (ps : List Sp) (bs : Sh.B) (hbs : cat ps = bs) (w : World) (hx : x.length = 32) (hR : SlR w A (byts key)) (hl : key.length = l) (hc : l ≤ c) (hbig : l < 70368744177664) (hR2 : SlR w A2 (sls ps)) (hP : ∀ q ∈ ps, SlR w q.2.1 (byts q.1)) (hPc : ∀ q ∈ ps, q.1.length ≤ q.2.2) (hn : ps.length = n) (hnb : n ≤ 1099511627776) (hpb : bs.length ≤ 1099511627776) (hv : decide (x = mac key bs) = v) : Calls Try.prog 36 [.slice A l c, .agg (ws8 x).toArray, .slice A2 n c2].toArray w fun e w' => ∃ _g : Unit, e = .returned (.bool v) ∧ St noB w w' [] ∧ True := by
  subst hv; exact check_c A l c key x A2 n c2 ps bs hbs w hx hR hl hc hbig hR2 hP hPc hn hnb hpb
set_option maxRecDepth 100000 in
set_option maxHeartbeats 1000000 in
theorem works2_c (w : World) : Calls Try.prog 30 [].toArray w fun e w' => ∃ _g : Unit, e = .returned (.bool true) ∧ St noB w w' [] ∧ True := by
  refine GC.calls Try.func30 rfl rfl (St.begin _) ?_
  refine GC.seq ?_
  refine GC.reg ?_
  refine GL.val (rv_assign rfl) rfl ?_
  refine GL.nil ?_
  refine GX.then ?_
  refine GC.seq ?_
  refine GC.reg ?_
  refine GL.step (ot_buildSlice ei_28 rfl rfl rfl rfl rfl rfl fun b2 => ?_)
  refine GL.step (ot_mark (k := 0) Try.underlying28 Try.underlying5 rfl rfl rfl ?_)
  refine GL.step (ot_buildSlice ei_28 rfl rfl rfl rfl rfl rfl fun b4 => ?_)
  refine GL.step (ot_mark (k := 0) Try.underlying28 Try.underlying5 rfl rfl rfl ?_)
  refine GL.step (ot_buildSlice ei_28 rfl rfl rfl rfl rfl rfl fun b6 => ?_)
  refine GL.step (ot_mark (k := 0) Try.underlying28 Try.underlying5 rfl rfl rfl ?_)
  refine GL.step (ot_buildSlice ei_48 rfl rfl rfl rfl rfl rfl fun b8 => ?_)
  refine GL.step (ot_call hb_31 rfl (callOk fun w hh => mac_b (some ⟨b2, 0, none⟩) 4 4 ([74, 101, 102, 101] : Sh.B) (some ⟨b8, 0, none⟩) 2 2 [(([119, 104, 97, 116, 32, 100, 111, 32, 121, 97, 32, 119, 97, 110, 116, 32] : Sh.B), (some ⟨b4, 0, none⟩, 16)), (([102, 111, 114, 32, 110, 111, 116, 104, 105, 110, 103, 63] : Sh.B), (some ⟨b6, 0, none⟩, 12))] (([119, 104, 97, 116, 32, 100, 111, 32, 121, 97, 32, 119, 97, 110, 116, 32] : Sh.B) ++ ([102, 111, 114, 32, 110, 111, 116, 104, 105, 110, 103, 63] : Sh.B)) (by simp [cat]) w (hh.ro (k := 3) rfl) rfl (by decide) (by decide) (slr_cl hh (k := 0) rfl rfl) (al (hh.ro (k := 2) rfl) (al (hh.ro (k := 1) rfl) an)) (al (Nat.le_refl 16) (al (Nat.le_refl 12) an)) rfl (by decide) (by first | decide | omega | (simp only [List.length_append]; omega) | (simp only [List.length_append, List.length_nil]; omega))) rfl fun _ _ => ?_)
  refine GL.step (ot_alloc (zs := ws8 (List.replicate 32 0)) zb_24 (rfl) rfl fun b1 => ?_)
  refine GL.step (ot_storeA (k := 0) rfl rfl rfl rfl (by exact sz_24) (by first | (first | (simp only [ws8_len, List.length_replicate, mac_len]; done)) | rfl) (by first | (first | (simp only [ws8_len, List.length_replicate, mac_len]; done)) | rfl) (by first | exact ws8_one _ | rfl) ?_)
  refine GL.nil ?_
  refine GX.then ?_
  refine GC.seq ?_
  refine GC.reg ?_
  refine GL.val (rv_elemAJ (q := 0) (0) as_24 rfl rfl (by first | rfl | omega) (by omega) (by first | rfl | omega)) rfl ?_
  refine GL.val (rv_load ag_5 rfl (Hd.cell (k := 0) rfl (ws8_get (by rw [mac_len]; decide)))) rfl ?_
  refine GL.val (rv_to (v' := .bool true) (rv_eq8 (b := 91) rfl rfl) (by exact congrArg Value.bool (decide_eq_true jefe_0))) rfl ?_
  refine GL.val (rv_move rfl) rfl ?_
  first | refine GL.skipG rfl rfl ?_ | refine GL.skipU rfl rfl ?_ | refine GL.valT rfl (rv_elemAJ (q := 1) (1) as_24 rfl rfl (by first | rfl | omega) (by omega) (by first | rfl | omega)) rfl ?_ | refine GL.valG rfl (fun hb => rv_elemAJ (q := 1) (1) as_24 (by first | exact evb rfl hb | rfl) (by first | exact evb rfl hb | rfl) (by first | rfl | omega) (by omega) (by first | rfl | omega)) rfl ?_
  first | refine GL.skipG rfl rfl ?_ | refine GL.skipU rfl rfl ?_ | refine GL.valT rfl (rv_load ag_5 rfl (Hd.cell (k := 0) rfl (ws8_get (by rw [mac_len]; decide)))) rfl ?_ | refine GL.valG rfl (fun hb => rv_load ag_5 (by first | exact evb rfl hb | rfl) (Hd.cell (k := 0) (by first | exact evb rfl hb | rfl) (ws8_get (by rw [mac_len]; decide)))) rfl ?_
  first | refine GL.skipG rfl rfl ?_ | refine GL.skipU rfl rfl ?_ | refine GL.valT rfl (rv_to (v' := .bool true) (rv_eq8 (b := 220) rfl rfl) (by exact congrArg Value.bool (decide_eq_true jefe_1))) rfl ?_ | refine GL.valG rfl (fun hb => rv_to (v' := .bool true) (rv_eq8 (b := 220) (by first | exact evb rfl hb | rfl) (by first | exact evb rfl hb | rfl)) (by exact congrArg Value.bool (decide_eq_true jefe_1))) rfl ?_
  refine GL.val ((by first | exact rv_andT rfl rfl rfl | exact rv_andF rfl rfl rfl | exact rv_pickAnd rfl rfl rfl)) rfl ?_
  refine GL.val (rv_move rfl) rfl ?_
  first | refine GL.skipG rfl rfl ?_ | refine GL.skipU rfl rfl ?_ | refine GL.valT rfl (rv_elemAJ (q := 31) (31) as_24 rfl rfl (by first | rfl | omega) (by omega) (by first | rfl | omega)) rfl ?_ | refine GL.valG rfl (fun hb => rv_elemAJ (q := 31) (31) as_24 (by first | exact evb rfl hb | rfl) (by first | exact evb rfl hb | rfl) (by first | rfl | omega) (by omega) (by first | rfl | omega)) rfl ?_
  first | refine GL.skipG rfl rfl ?_ | refine GL.skipU rfl rfl ?_ | refine GL.valT rfl (rv_load ag_5 rfl (Hd.cell (k := 0) rfl (ws8_get (by rw [mac_len]; decide)))) rfl ?_ | refine GL.valG rfl (fun hb => rv_load ag_5 (by first | exact evb rfl hb | rfl) (Hd.cell (k := 0) (by first | exact evb rfl hb | rfl) (ws8_get (by rw [mac_len]; decide)))) rfl ?_
  first | refine GL.skipG rfl rfl ?_ | refine GL.skipU rfl rfl ?_ | refine GL.valT rfl (rv_to (v' := .bool true) (rv_eq8 (b := 67) rfl rfl) (by exact congrArg Value.bool (decide_eq_true jefe_31))) rfl ?_ | refine GL.valG rfl (fun hb => rv_to (v' := .bool true) (rv_eq8 (b := 67) (by first | exact evb rfl hb | rfl) (by first | exact evb rfl hb | rfl)) (by exact congrArg Value.bool (decide_eq_true jefe_31))) rfl ?_
  refine GL.val ((by first | exact rv_andT rfl rfl rfl | exact rv_andF rfl rfl rfl | exact rv_pickAnd rfl rfl rfl)) rfl ?_
  refine GL.val (rv_move rfl) rfl ?_
  first | refine GL.skipG rfl rfl ?_ | refine GL.skipU rfl rfl ?_ | refine GL.stepG rfl (ot_buildSlice ei_28 rfl rfl rfl rfl rfl rfl fun b24 => ?_)
  first | refine GL.skipG rfl rfl ?_ | refine GL.skipU rfl rfl ?_ | refine GL.stepG rfl (ot_mark (k := 0) Try.underlying28 Try.underlying5 rfl rfl rfl ?_)
  first | refine GL.skipG rfl rfl ?_ | refine GL.skipU rfl rfl ?_ | refine GL.stepG rfl (ot_buildSlice ei_28 rfl rfl rfl rfl rfl rfl fun b26 => ?_)
  first | refine GL.skipG rfl rfl ?_ | refine GL.skipU rfl rfl ?_ | refine GL.stepG rfl (ot_mark (k := 0) Try.underlying28 Try.underlying5 rfl rfl rfl ?_)
  first | refine GL.skipG rfl rfl ?_ | refine GL.skipU rfl rfl ?_ | refine GL.stepG rfl (ot_call hb_34 rfl (callOk fun w hh => same_b true (some ⟨b24, 0, none⟩) (some ⟨b26, 0, none⟩) 1 1 _ _ [97] [97] w (hh.ro (k := 1) rfl) (hh.ro (k := 0) rfl) rfl rfl (by decide) (by decide) (by decide)) rfl fun _ _ => ?_)
  refine GL.val ((by first | exact rv_andT rfl rfl rfl | exact rv_andF rfl rfl rfl | exact rv_pickAnd rfl rfl rfl)) rfl ?_
  refine GL.val (rv_move rfl) rfl ?_
  first | refine GL.skipG rfl rfl ?_ | refine GL.skipU rfl rfl ?_ | refine GL.stepG rfl (ot_buildSlice ei_28 rfl rfl rfl rfl rfl rfl fun b31 => ?_)
  first | refine GL.skipG rfl rfl ?_ | refine GL.skipU rfl rfl ?_ | refine GL.stepG rfl (ot_mark (k := 0) Try.underlying28 Try.underlying5 rfl rfl rfl ?_)
  first | refine GL.skipG rfl rfl ?_ | refine GL.skipU rfl rfl ?_ | refine GL.stepG rfl (ot_buildSlice ei_28 rfl rfl rfl rfl rfl rfl fun b33 => ?_)
  first | refine GL.skipG rfl rfl ?_ | refine GL.skipU rfl rfl ?_ | refine GL.stepG rfl (ot_mark (k := 0) Try.underlying28 Try.underlying5 rfl rfl rfl ?_)
  first | refine GL.skipG rfl rfl ?_ | refine GL.skipU rfl rfl ?_ | refine GL.stepG rfl (ot_call hb_34 rfl (callOk fun w hh => same_b false (some ⟨b31, 0, none⟩) (some ⟨b33, 0, none⟩) 1 2 _ _ [97] [97, 98] w (hh.ro (k := 1) rfl) (hh.ro (k := 0) rfl) rfl rfl (by decide) (by decide) (by decide)) rfl fun _ _ => ?_)
  first | refine GL.skipG rfl rfl ?_ | refine GL.skipU rfl rfl ?_ | refine GL.valT rfl (rv_not rfl) rfl ?_ | refine GL.valG rfl (fun hb => rv_not (by first | exact evb rfl hb | rfl)) rfl ?_
  refine GL.val ((by first | exact rv_andT rfl rfl rfl | exact rv_andF rfl rfl rfl | exact rv_pickAnd rfl rfl rfl)) rfl ?_
  refine GL.val (rv_assign rfl) rfl ?_
  refine GL.nil ?_
  refine GX.then ?_
  refine GC.ret ?_
  refine GX.ret1 rfl (RR.tmp rfl) ?_
  exact fun w9 h => ⟨(), rfl, by
      have h := h.sel [] rfl rfl
      exact h, trivial⟩
end Go.Proofs.Ytaocclmdlpnjbaa
