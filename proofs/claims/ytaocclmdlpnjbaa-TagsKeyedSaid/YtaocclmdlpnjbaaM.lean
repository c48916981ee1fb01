import Derived.Test.YtaocclmdlpnjbaaL
set_option linter.unusedVariables false
set_option linter.unusedSimpArgs false
namespace Go.Proofs.Ytaocclmdlpnjbaa
open Go Go.RowKit Go.Bz
theorem ag_32 : aggB Try.prog 32 = some true := by kernel_rfl
theorem as_32 : arrSz Try.prog 32 = some (2, 32) := by kernel_rfl
theorem hb_19 : hasBody Try.prog 19 = true := by kernel_rfl
theorem hb_28 : hasBody Try.prog 28 = true := by kernel_rfl
theorem sz_32 : (Try.prog.info? 32).map (·.size) = some 64 := by kernel_rfl
set_option maxRecDepth 100000 in
set_option maxHeartbeats 1000000 in
theorem kinds_law (A : Option Addr) (n c : Nat) (bs : Sh.B) (x : Sh.B) (hx : x.length = 32) (nm : ByteArray) (key : Sh.B) (kA : Option Addr) (kc : Nat) (ser : UInt64) (e : UInt64) (p t z : Sh.B) (hp : p.length = 32) (ht : t.length = 32) (hz : z.length = 32) (w : World) (hR : SlR w A (byts bs)) (hl : bs.length = n) (hn : n < 4611686018427387904) (hk : SlR w kA (byts key)) : Calls Try.prog 6 [.slice A n c, .agg (ws8 x).toArray, .agg (bcell nm key kA kc ser).toArray, .agg (rcell e p t z).toArray].toArray w fun e w' => ∃ _g : Unit, e = .returned (.bool true) ∧ St noB w w' [] ∧ True := by
  refine GC.calls Try.func6 rfl rfl (St.begin _) ?_
  refine GC.seq ?_
  refine GC.reg ?_
  refine GL.step (ot_box rfl rfl rfl fun b5 => ?_)
  refine GL.step (ot_box rfl rfl rfl fun b6 => ?_)
  refine GL.step (ot_box rfl rfl rfl fun b7 => ?_)
  refine GL.val (rv_assign rfl) rfl ?_
  refine GL.nil ?_
  refine GX.then ?_
  refine GC.seq ?_
  refine GC.seq ?_
  refine GC.reg ?_
  refine GL.val (rv_loadAL ag_34 rfl (by first | exact Hd.cellsAll (k := 1) rfl | exact Hd.cells (k := 1) rfl rfl) (by exact sz_34) (by first | (simp [ws8_len, hx, rcell, hp, ht, hz]; done) | rfl)) rfl ?_
  refine GL.step (ot_call hb_16 rfl (callOk fun w hh => few_c nm key kA kc ser w) rfl fun _ _ => ?_)
  refine GL.val (rv_not rfl) rfl ?_
  refine GL.nil ?_
  refine GX.then ?_
  first | refine GC.condP rfl (fun c11 => ?_) (fun c11 => ?_) | refine GC.cond rfl (fun c11 => ?_) (fun c11 => ?_)
  · refine GC.seq ?_
    refine GC.reg ?_
    refine GL.step (ot_call hb_15 rfl (callOk fun w hh => works_c w) rfl fun _ _ => ?_)
    refine GL.val (rv_assign rfl) rfl ?_
    refine GL.nil ?_
    refine GX.then ?_
    refine GC.ret ?_
    refine GX.then_ret ?_
    refine GX.ret1 rfl (RR.tmp rfl) ?_
    exact fun w9 h => ⟨(), rfl, by
        have h := h.sel [] rfl rfl
        exact h, trivial⟩
  · have hf : nm.size ≤ 2000 ∧ key.length ≤ 2000 := by simpa using c11
    obtain ⟨hf1, hf2⟩ := hf
    refine GC.skip ?_
    refine GX.then ?_
    refine GC.seq ?_
    refine GC.seq ?_
    refine GC.reg ?_
    refine GL.val (rv_move rfl) rfl ?_
    refine GL.step (ot_call hb_27 rfl (callOk fun w hh => kind_c A n c bs w (hh.rd0n hR) hl hn) rfl fun _ _ => ?_)
    refine GL.val (rv_move rfl) rfl ?_
    refine GL.step (ot_call hb_28 rfl (callOk fun w hh => rkind_c A n c bs w (hh.rd0n hR) hl hn) rfl fun _ _ => ?_)
    refine GL.val (rv_to (v' := .bool false) (rv_ne8 rfl rfl) (by simp)) rfl ?_
    refine GL.nil ?_
    refine GX.then ?_
    first | refine GC.condP rfl (fun c17 => ?_) (fun c17 => ?_) | refine GC.cond rfl (fun c17 => ?_) (fun c17 => ?_)
    · exact absurd c17 (by simp)
    · refine GC.skip ?_
      refine GX.then ?_
      refine GC.seq ?_
      refine GC.reg ?_
      refine GL.val (rv_loadAL ag_24 rfl (by first | exact Hd.cellsAll (k := 2) rfl | exact Hd.cells (k := 2) rfl rfl) (by exact sz_24) (by first | (simp [ws8_len, hx, rcell, hp, ht, hz]; done) | rfl)) rfl ?_
      refine GL.val (rv_loadAL ag_24 rfl (by first | exact Hd.cellsAll (k := 2) rfl | exact Hd.cells (k := 2) rfl rfl) (by exact sz_24) (by first | (simp [ws8_len, hx, rcell, hp, ht, hz]; done) | rfl)) rfl ?_
      refine GL.step (ot_call hb_17 rfl (callOk fun w hh => leaf_c x x w hx hx) rfl fun g20 h20 => ?_)
      refine GL.step (ot_call hb_27 rfl (callOk fun w hh => kind_c g20.1 _ g20.2 (76 :: (x ++ x)) w (hh.ro (k := 0) rfl) rfl (by simp [hx])) rfl fun _ _ => ?_)
      refine GL.val (rv_to (v' := .bool true) (rv_eq8 (b := 76) rfl rfl) (by simp [kind_leaf hx hx])) rfl ?_
      refine GL.val (rv_move rfl) rfl ?_
      first | refine GL.skipG rfl rfl ?_ | refine GL.skipU rfl rfl ?_ | refine GL.valT rfl (rv_loadAL ag_24 rfl (by first | exact Hd.cellsAll (k := 3) rfl | exact Hd.cells (k := 3) rfl rfl) (by exact sz_24) (by first | (simp [ws8_len, hx, rcell, hp, ht, hz]; done) | rfl)) rfl ?_ | refine GL.valG rfl (fun hb => rv_loadAL ag_24 (by first | exact evb rfl hb | rfl) (by first | exact Hd.cellsAll (k := 3) (by first | exact evb rfl hb | rfl) | exact Hd.cells (k := 3) (by first | exact evb rfl hb | rfl) (by first | exact evb rfl hb | rfl)) (by exact sz_24) (by first | (simp [ws8_len, hx, rcell, hp, ht, hz]; done) | rfl)) rfl ?_
      first | refine GL.skipG rfl rfl ?_ | refine GL.skipU rfl rfl ?_ | refine GL.valT rfl (rv_loadAL ag_24 rfl (by first | exact Hd.cellsAll (k := 3) rfl | exact Hd.cells (k := 3) rfl rfl) (by exact sz_24) (by first | (simp [ws8_len, hx, rcell, hp, ht, hz]; done) | rfl)) rfl ?_ | refine GL.valG rfl (fun hb => rv_loadAL ag_24 (by first | exact evb rfl hb | rfl) (by first | exact Hd.cellsAll (k := 3) (by first | exact evb rfl hb | rfl) | exact Hd.cells (k := 3) (by first | exact evb rfl hb | rfl) (by first | exact evb rfl hb | rfl)) (by exact sz_24) (by first | (simp [ws8_len, hx, rcell, hp, ht, hz]; done) | rfl)) rfl ?_
      first | refine GL.skipG rfl rfl ?_ | refine GL.skipU rfl rfl ?_ | refine GL.stepG rfl (ot_call hb_18 rfl (callOk fun w hh => node_c x x w hx hx) rfl fun g26 h26 => ?_)
      first | refine GL.skipG rfl rfl ?_ | refine GL.skipU rfl rfl ?_ | refine GL.stepG rfl (ot_call hb_27 rfl (callOk fun w hh => kind_c g26.1 _ g26.2 (78 :: (x ++ x)) w (hh.ro (k := 0) rfl) rfl (by simp [hx])) rfl fun _ _ => ?_)
      first | refine GL.skipG rfl rfl ?_ | refine GL.skipU rfl rfl ?_ | refine GL.valT rfl (rv_to (v' := .bool true) (rv_eq8 (b := 78) rfl rfl) (by simp [kind_node hx hx])) rfl ?_ | refine GL.valG rfl (fun hb => rv_to (v' := .bool true) (rv_eq8 (b := 78) (by first | exact evb rfl hb | rfl) (by first | exact evb rfl hb | rfl)) (by simp [kind_node hx hx])) rfl ?_
      refine GL.val ((by first | exact rv_andT rfl rfl rfl | exact rv_andF rfl rfl rfl | exact rv_pickAnd rfl rfl rfl)) rfl ?_
      refine GL.val (rv_move rfl) rfl ?_
      first | refine GL.skipG rfl rfl ?_ | refine GL.skipU rfl rfl ?_ | refine GL.valT rfl (rv_loadAL ag_24 rfl (by first | exact Hd.cellsAll (k := 4) rfl | exact Hd.cells (k := 4) rfl rfl) (by exact sz_24) (by first | (simp [ws8_len, hx, rcell, hp, ht, hz]; done) | rfl)) rfl ?_ | refine GL.valG rfl (fun hb => rv_loadAL ag_24 (by first | exact evb rfl hb | rfl) (by first | exact Hd.cellsAll (k := 4) (by first | exact evb rfl hb | rfl) | exact Hd.cells (k := 4) (by first | exact evb rfl hb | rfl) (by first | exact evb rfl hb | rfl)) (by exact sz_24) (by first | (simp [ws8_len, hx, rcell, hp, ht, hz]; done) | rfl)) rfl ?_
      first | refine GL.skipG rfl rfl ?_ | refine GL.skipU rfl rfl ?_ | refine GL.valT rfl (rv_loadAL ag_34 rfl (by first | exact Hd.cellsAll (k := 3) rfl | exact Hd.cells (k := 3) rfl rfl) (by exact sz_34) (by first | (simp [ws8_len, hx, rcell, hp, ht, hz]; done) | rfl)) rfl ?_ | refine GL.valG rfl (fun hb => rv_loadAL ag_34 (by first | exact evb rfl hb | rfl) (by first | exact Hd.cellsAll (k := 3) (by first | exact evb rfl hb | rfl) | exact Hd.cells (k := 3) (by first | exact evb rfl hb | rfl) (by first | exact evb rfl hb | rfl)) (by exact sz_34) (by first | (simp [ws8_len, hx, rcell, hp, ht, hz]; done) | rfl)) rfl ?_
      first | refine GL.skipG rfl rfl ?_ | refine GL.skipU rfl rfl ?_ | refine GL.stepG rfl (ot_call hb_20 rfl (callOk fun w hh => value_c x nm key kA kc ser w hx (hh.rd0n hk) (by omega) (by omega)) rfl fun g33 h33 => ?_)
      first | refine GL.skipG rfl rfl ?_ | refine GL.skipU rfl rfl ?_ | refine GL.stepG rfl (ot_call hb_27 rfl (callOk fun w hh => kind_c g33.1 _ g33.2 (vbytes x nm key ser) w (hh.ro (k := 0) rfl) rfl (by have e : nm.data.toList.length = nm.size := rfl; simp only [vbytes, num_len, List.length_cons, List.length_append, hx, e]; omega)) rfl fun _ _ => ?_)
      first | refine GL.skipG rfl rfl ?_ | refine GL.skipU rfl rfl ?_ | refine GL.valT rfl (rv_to (v' := .bool true) (rv_eq8 (b := 86) rfl rfl) (by simp [kind_val hx hf1 hf2])) rfl ?_ | refine GL.valG rfl (fun hb => rv_to (v' := .bool true) (rv_eq8 (b := 86) (by first | exact evb rfl hb | rfl) (by first | exact evb rfl hb | rfl)) (by simp [kind_val hx hf1 hf2])) rfl ?_
      refine GL.val ((by first | exact rv_andT rfl rfl rfl | exact rv_andF rfl rfl rfl | exact rv_pickAnd rfl rfl rfl)) rfl ?_
      refine GL.val (rv_move rfl) rfl ?_
      first | refine GL.skipG rfl rfl ?_ | refine GL.skipU rfl rfl ?_ | refine GL.valT rfl (rv_loadAL ag_26 rfl (by first | exact Hd.cellsAll (k := 3) rfl | exact Hd.cells (k := 3) rfl rfl) (by exact sz_26) (by first | (simp [ws8_len, hx, rcell, hp, ht, hz]; done) | rfl)) rfl ?_ | refine GL.valG rfl (fun hb => rv_loadAL ag_26 (by first | exact evb rfl hb | rfl) (by first | exact Hd.cellsAll (k := 3) (by first | exact evb rfl hb | rfl) | exact Hd.cells (k := 3) (by first | exact evb rfl hb | rfl) (by first | exact evb rfl hb | rfl)) (by exact sz_26) (by first | (simp [ws8_len, hx, rcell, hp, ht, hz]; done) | rfl)) rfl ?_
      first | refine GL.skipG rfl rfl ?_ | refine GL.skipU rfl rfl ?_ | refine GL.stepG rfl (ot_call hb_14 rfl (callOk fun w hh => root_c e p t z w hp ht hz) rfl fun g39 h39 => ?_)
      first | refine GL.skipG rfl rfl ?_ | refine GL.skipU rfl rfl ?_ | refine GL.stepG rfl (ot_call hb_27 rfl (callOk fun w hh => kind_c g39.1 _ g39.2 (rbytes e p t z) w (hh.ro (k := 0) rfl) rfl (by simp [rbytes, num_len, hp, ht, hz])) rfl fun _ _ => ?_)
      first | refine GL.skipG rfl rfl ?_ | refine GL.skipU rfl rfl ?_ | refine GL.valT rfl (rv_to (v' := .bool true) (rv_eq8 (b := 82) rfl rfl) (by simp [kind_rt hp ht hz])) rfl ?_ | refine GL.valG rfl (fun hb => rv_to (v' := .bool true) (rv_eq8 (b := 82) (by first | exact evb rfl hb | rfl) (by first | exact evb rfl hb | rfl)) (by simp [kind_rt hp ht hz])) rfl ?_
      refine GL.val ((by first | exact rv_andT rfl rfl rfl | exact rv_andF rfl rfl rfl | exact rv_pickAnd rfl rfl rfl)) rfl ?_
      refine GL.val (rv_move rfl) rfl ?_
      first | refine GL.skipG rfl rfl ?_ | refine GL.skipU rfl rfl ?_ | refine GL.stepG rfl (ot_call hb_15 rfl (callOk fun w hh => works_c w) rfl fun _ _ => ?_)
      refine GL.val ((by first | exact rv_andT rfl rfl rfl | exact rv_andF rfl rfl rfl | exact rv_pickAnd rfl rfl rfl)) rfl ?_
      refine GL.val (rv_assign rfl) rfl ?_
      refine GL.nil ?_
      refine GX.then ?_
      refine GC.ret ?_
      refine GX.ret1 rfl (RR.tmp rfl) ?_
      exact fun w9 h => ⟨(), rfl, by
          have h := h.sel [] rfl rfl
          exact h, trivial⟩
variable {L : List (Nat × Value)} {Fs : List Pc} {ty : TypeId} {x y : Operand}
theorem rv_neB {P : Program} {K : Nat → Prop} {w0 : World} {n : Nat} {t t' : TypeId} {a b : Bool} (ex : ev L x = some (.bool a)) (ey : ev L y = some (.bool b)) (h : ∀ w, (Op.equal t (.bool a) (.bool b)).run P w = .ok (decide (a = b)) w) : RV P K w0 n L Fs (.binOp .neq t x y t') ty (.bool (!decide (a = b))) :=
  rv_bin ex ey fun w => by
    have e1 : (eqGuard .neq t x y (.bool a) (.bool b)).run P w = .ok () w := rfl
    have e2 : binOp .neq t (.bool a) (.bool b) = (do pure (.bool (!(← Op.equal t (.bool a) (.bool b))))) := rfl
    rw [Sem.run_bind, e1, Result.andThen_ok, e2, Sem.run_bind, h w]; rfl
theorem few_b (b : Bool) (nm : ByteArray) (key : Sh.B) (kA : Option Addr) (kc : Nat) (ser : UInt64) (w : World) (h : decide (nm.size ≤ 2000 ∧ key.length ≤ 2000) = b) : Calls Try.prog 16 [.agg (bcell nm key kA kc ser).toArray].toArray w fun e w' => ∃ _g : Unit, e = .returned (.bool b) ∧ St noB w w' [] ∧ True := h ▸ few_c nm key kA kc ser w
def two (a b : Sh.B) : List Value := ws8 a ++ ws8 b
theorem two_0 {a b : Sh.B} : ((two a b).drop 0).take (ws8 a).length = ws8 a := by unfold two; simp
theorem two_1 {a b : Sh.B} (h : a.length = 32) : ((two a b).drop 32).take (ws8 b).length = ws8 b := by
  unfold two
  have hl : (ws8 a).length = 32 := by rw [ws8_len, h]
  rw [List.drop_append, List.drop_of_length_le (by omega), hl]; simp
theorem cells32 : Try.prog.cellsOf 32 = 64 := by kernel_rfl
theorem egt32 : Try.prog.eqGuardType Try.prog.depth 32 = false := by kernel_rfl
theorem ktt32 : Try.prog.keyTypeAt 3 32 = true := by kernel_rfl
theorem keyLits_two {a b : Sh.B} (ha : a.length = 32) (hb : b.length = 32) : Try.prog.keyLits 10 32 (two a b) = some (lits8 a ++ lits8 b) := by
  have hk : ∀ l : Sh.B, l.length = 32 → Try.prog.keyLits 9 24 (ws8 l) = some (lits8 l) := fun l h => keyLits_arr (d := 7) Try.underlying24 Try.underlying5 cells24 cells5 l h
  have c0 : ((two a b).drop (0 * 32)).take 32 = ws8 a := by have := two_0 (a := a) (b := b); rwa [ws8_len, ha] at this
  have c1 : ((two a b).drop (1 * 32)).take 32 = ws8 b := by have := two_1 (b := b) ha; rwa [ws8_len, hb] at this
  have hlen : (two a b).length = 64 := by simp [two, ws8_len, ha, hb]
  rw [show (10 : Nat) = 9 + 1 from rfl]
  unfold Program.keyLits
  rw [Try.underlying32]
  simp only [cells32, hlen, if_true, cells24]
  rw [show List.range 2 = [0, 1] from rfl]
  simp only [List.mapM_cons, List.mapM_nil, c0, c1, hk a ha, hk b hb, Option.bind_eq_bind, Option.bind_some, Option.pure_def, Option.map_some, List.flatten_cons, List.flatten_nil, List.append_nil]
theorem rv_eq32 {K : Nat → Prop} {w0 : World} {n : Nat} {t' : TypeId} {a b a' b' : Sh.B} (ex : ev L x = some (.agg (two a b).toArray)) (ey : ev L y = some (.agg (two a' b').toArray)) (h1 : a.length = 32) (h2 : b.length = 32) (h3 : a'.length = 32) (h4 : b'.length = 32) :
    RV Try.prog K w0 n L Fs (.binOp .eql 32 x y t') ty (.bool (decide (a = a' ∧ b = b'))) :=
  rv_eqDeep ex ey egt32 (by decide) ktt32 (by simp [Value.formed, Try.underlying32, cells32, two, ws8_len, h1, h2]) (by simp [Value.formed, Try.underlying32, cells32, two, ws8_len, h3, h4]) (keyLits_two h1 h2) (keyLits_two h3 h4) (by
    constructor
    · intro h
      have hl : ∀ l : Sh.B, (lits8 l).length = l.length := fun l => by simp [lits8]
      obtain ⟨hc, hd⟩ := List.append_inj h (by rw [hl, hl, h1, h3])
      exact ⟨lits8_inj.1 hc, lits8_inj.1 hd⟩
    · rintro ⟨rfl, rfl⟩; rfl)
set_option maxRecDepth 100000 in
set_option maxHeartbeats 1000000 in
theorem apart_law (x0 x1 y0 y1 : Sh.B) (hx0 : x0.length = 32) (hx1 : x1.length = 32) (hy0 : y0.length = 32) (hy1 : y1.length = 32) (nm : ByteArray) (key : Sh.B) (kA : Option Addr) (kc : Nat) (ser : UInt64) (nm2 : ByteArray) (key2 : Sh.B) (kA2 : Option Addr) (kc2 : Nat) (ser2 : UInt64) (w : World) (hk : SlR w kA (byts key)) (hk2 : SlR w kA2 (byts key2)) : Calls Try.prog 4 [.agg (two x0 x1).toArray, .agg (two y0 y1).toArray, .agg (bcell nm key kA kc ser).toArray, .agg (bcell nm2 key2 kA2 kc2 ser2).toArray].toArray w fun e w' => ∃ _g : Unit, e = .returned (.bool true) ∧ St noB w w' [] ∧ True := by
  refine GC.calls Try.func4 rfl rfl (St.begin _) ?_
  refine GC.seq ?_
  refine GC.reg ?_
  refine GL.step (ot_box rfl rfl rfl fun b4 => ?_)
  refine GL.step (ot_box rfl rfl rfl fun b5 => ?_)
  refine GL.step (ot_box rfl rfl rfl fun b6 => ?_)
  refine GL.step (ot_box rfl rfl rfl fun b7 => ?_)
  refine GL.val (rv_assign rfl) rfl ?_
  refine GL.nil ?_
  refine GX.then ?_
  refine GC.seq ?_
  refine GC.seq ?_
  refine GC.cutq (γ := Unit) [7, 6, 5, 4] [3, 2, 1, 0] (fun g Lk => (18, .bool (decide (¬ (nm.size ≤ 2000 ∧ key.length ≤ 2000 ∧ nm2.size ≤ 2000 ∧ key2.length ≤ 2000)))) :: Lk) (fun g Fk => Fk) (fun g => True) rfl rfl ?_ (fun _ _ => ?_)
  · rcases (by omega : ¬ (nm.size ≤ 2000 ∧ key.length ≤ 2000) ∨ ((nm.size ≤ 2000 ∧ key.length ≤ 2000) ∧ ¬ (nm2.size ≤ 2000 ∧ key2.length ≤ 2000)) ∨ ((nm.size ≤ 2000 ∧ key.length ≤ 2000) ∧ (nm2.size ≤ 2000 ∧ key2.length ≤ 2000))) with h | h | h
    · have hb1 : decide (nm.size ≤ 2000 ∧ key.length ≤ 2000) = false := decide_eq_false h
      have hb2 : decide (nm2.size ≤ 2000 ∧ key2.length ≤ 2000) = decide (nm2.size ≤ 2000 ∧ key2.length ≤ 2000) := rfl
      rw [show decide (¬ (nm.size ≤ 2000 ∧ key.length ≤ 2000 ∧ nm2.size ≤ 2000 ∧ key2.length ≤ 2000)) = true from decide_eq_true (by omega)]
      refine GC.reg ?_
      refine GL.val (rv_loadAL ag_34 rfl (by first | exact Hd.cellsAll (k := 1) rfl | exact Hd.cells (k := 1) rfl rfl) (by exact sz_34) (by first | (simp [ws8_len, two, hx0, hx1, hy0, hy1]; done) | rfl)) rfl ?_
      refine GL.step (ot_call hb_16 rfl (callOk fun w hh => few_b _ nm key kA kc ser w hb1) rfl fun _ _ => ?_)
      refine GL.val (rv_not rfl) rfl ?_
      refine GL.val (rv_move rfl) rfl ?_
      first | refine GL.skipG rfl rfl ?_ | refine GL.skipU rfl rfl ?_ | refine GL.valT rfl (rv_loadAL ag_34 rfl (by first | exact Hd.cellsAll (k := 0) rfl | exact Hd.cells (k := 0) rfl rfl) (by exact sz_34) (by first | (simp [ws8_len, two, hx0, hx1, hy0, hy1]; done) | rfl)) rfl ?_ | refine GL.valG rfl (fun hb => rv_loadAL ag_34 (by first | exact evb rfl hb | rfl) (by first | exact Hd.cellsAll (k := 0) (by first | exact evb rfl hb | rfl) | exact Hd.cells (k := 0) (by first | exact evb rfl hb | rfl) (by first | exact evb rfl hb | rfl)) (by exact sz_34) (by first | (simp [ws8_len, two, hx0, hx1, hy0, hy1]; done) | rfl)) rfl ?_
      first | refine GL.skipG rfl rfl ?_ | refine GL.skipU rfl rfl ?_ | refine GL.stepG rfl (ot_call hb_16 rfl (callOk fun w hh => few_b _ nm2 key2 kA2 kc2 ser2 w hb2) rfl fun _ _ => ?_)
      first | refine GL.skipG rfl rfl ?_ | refine GL.skipU rfl rfl ?_ | refine GL.valT rfl (rv_not rfl) rfl ?_ | refine GL.valG rfl (fun hb => rv_not (by first | exact evb rfl hb | rfl)) rfl ?_
      refine GL.val ((by first | exact rv_orF rfl rfl rfl | exact rv_orT rfl rfl rfl | exact rv_pickOr rfl rfl rfl)) rfl ?_
      refine GL.nil ?_
      exact GX.cutq () trivial (by repeat (first | exact Sub.nil | refine Sub.cons rfl ?_)) (fun w9 h => by
          exact h)
    · have hb1 : decide (nm.size ≤ 2000 ∧ key.length ≤ 2000) = true := decide_eq_true h.1
      have hb2 : decide (nm2.size ≤ 2000 ∧ key2.length ≤ 2000) = false := decide_eq_false h.2
      rw [show decide (¬ (nm.size ≤ 2000 ∧ key.length ≤ 2000 ∧ nm2.size ≤ 2000 ∧ key2.length ≤ 2000)) = true from decide_eq_true (by omega)]
      refine GC.reg ?_
      refine GL.val (rv_loadAL ag_34 rfl (by first | exact Hd.cellsAll (k := 1) rfl | exact Hd.cells (k := 1) rfl rfl) (by exact sz_34) (by first | (simp [ws8_len, two, hx0, hx1, hy0, hy1]; done) | rfl)) rfl ?_
      refine GL.step (ot_call hb_16 rfl (callOk fun w hh => few_b _ nm key kA kc ser w hb1) rfl fun _ _ => ?_)
      refine GL.val (rv_not rfl) rfl ?_
      refine GL.val (rv_move rfl) rfl ?_
      first | refine GL.skipG rfl rfl ?_ | refine GL.skipU rfl rfl ?_ | refine GL.valT rfl (rv_loadAL ag_34 rfl (by first | exact Hd.cellsAll (k := 0) rfl | exact Hd.cells (k := 0) rfl rfl) (by exact sz_34) (by first | (simp [ws8_len, two, hx0, hx1, hy0, hy1]; done) | rfl)) rfl ?_ | refine GL.valG rfl (fun hb => rv_loadAL ag_34 (by first | exact evb rfl hb | rfl) (by first | exact Hd.cellsAll (k := 0) (by first | exact evb rfl hb | rfl) | exact Hd.cells (k := 0) (by first | exact evb rfl hb | rfl) (by first | exact evb rfl hb | rfl)) (by exact sz_34) (by first | (simp [ws8_len, two, hx0, hx1, hy0, hy1]; done) | rfl)) rfl ?_
      first | refine GL.skipG rfl rfl ?_ | refine GL.skipU rfl rfl ?_ | refine GL.stepG rfl (ot_call hb_16 rfl (callOk fun w hh => few_b _ nm2 key2 kA2 kc2 ser2 w hb2) rfl fun _ _ => ?_)
      first | refine GL.skipG rfl rfl ?_ | refine GL.skipU rfl rfl ?_ | refine GL.valT rfl (rv_not rfl) rfl ?_ | refine GL.valG rfl (fun hb => rv_not (by first | exact evb rfl hb | rfl)) rfl ?_
      refine GL.val ((by first | exact rv_orF rfl rfl rfl | exact rv_orT rfl rfl rfl | exact rv_pickOr rfl rfl rfl)) rfl ?_
      refine GL.nil ?_
      exact GX.cutq () trivial (by repeat (first | exact Sub.nil | refine Sub.cons rfl ?_)) (fun w9 h => by
          exact h)
    · have hb1 : decide (nm.size ≤ 2000 ∧ key.length ≤ 2000) = true := decide_eq_true h.1
      have hb2 : decide (nm2.size ≤ 2000 ∧ key2.length ≤ 2000) = true := decide_eq_true h.2
      rw [show decide (¬ (nm.size ≤ 2000 ∧ key.length ≤ 2000 ∧ nm2.size ≤ 2000 ∧ key2.length ≤ 2000)) = false from decide_eq_false (by omega)]
      refine GC.reg ?_
      refine GL.val (rv_loadAL ag_34 rfl (by first | exact Hd.cellsAll (k := 1) rfl | exact Hd.cells (k := 1) rfl rfl) (by exact sz_34) (by first | (simp [ws8_len, two, hx0, hx1, hy0, hy1]; done) | rfl)) rfl ?_
      refine GL.step (ot_call hb_16 rfl (callOk fun w hh => few_b _ nm key kA kc ser w hb1) rfl fun _ _ => ?_)
      refine GL.val (rv_not rfl) rfl ?_
      refine GL.val (rv_move rfl) rfl ?_
      first | refine GL.skipG rfl rfl ?_ | refine GL.skipU rfl rfl ?_ | refine GL.valT rfl (rv_loadAL ag_34 rfl (by first | exact Hd.cellsAll (k := 0) rfl | exact Hd.cells (k := 0) rfl rfl) (by exact sz_34) (by first | (simp [ws8_len, two, hx0, hx1, hy0, hy1]; done) | rfl)) rfl ?_ | refine GL.valG rfl (fun hb => rv_loadAL ag_34 (by first | exact evb rfl hb | rfl) (by first | exact Hd.cellsAll (k := 0) (by first | exact evb rfl hb | rfl) | exact Hd.cells (k := 0) (by first | exact evb rfl hb | rfl) (by first | exact evb rfl hb | rfl)) (by exact sz_34) (by first | (simp [ws8_len, two, hx0, hx1, hy0, hy1]; done) | rfl)) rfl ?_
      first | refine GL.skipG rfl rfl ?_ | refine GL.skipU rfl rfl ?_ | refine GL.stepG rfl (ot_call hb_16 rfl (callOk fun w hh => few_b _ nm2 key2 kA2 kc2 ser2 w hb2) rfl fun _ _ => ?_)
      first | refine GL.skipG rfl rfl ?_ | refine GL.skipU rfl rfl ?_ | refine GL.valT rfl (rv_not rfl) rfl ?_ | refine GL.valG rfl (fun hb => rv_not (by first | exact evb rfl hb | rfl)) rfl ?_
      refine GL.val ((by first | exact rv_orF rfl rfl rfl | exact rv_orT rfl rfl rfl | exact rv_pickOr rfl rfl rfl)) rfl ?_
      refine GL.nil ?_
      exact GX.cutq () trivial (by repeat (first | exact Sub.nil | refine Sub.cons rfl ?_)) (fun w9 h => by
          exact h)
  refine GX.then ?_
  first | refine GC.condP rfl (fun c18 => ?_) (fun c18 => ?_) | refine GC.cond rfl (fun c18 => ?_) (fun c18 => ?_)
  · refine GC.seq ?_
    refine GC.reg ?_
    refine GL.step (ot_call hb_15 rfl (callOk fun w hh => works_c w) rfl fun _ _ => ?_)
    refine GL.val (rv_assign rfl) rfl ?_
    refine GL.nil ?_
    refine GX.then ?_
    refine GC.ret ?_
    refine GX.then_ret ?_
    refine GX.ret1 rfl (RR.tmp rfl) ?_
    exact fun w9 h => ⟨(), rfl, by
        have h := h.sel [] rfl rfl
        exact h, trivial⟩
  · have hf : (nm.size ≤ 2000 ∧ key.length ≤ 2000 ∧ nm2.size ≤ 2000 ∧ key2.length ≤ 2000) := by simpa using c18
    obtain ⟨hf1, hf2, hf3, hf4⟩ := hf
    refine GC.skip ?_
    refine GX.then ?_
    refine GC.seq ?_
    refine GC.reg ?_
    refine GL.val (rv_loadAL ag_32 rfl (by first | exact Hd.cellsAll (k := 3) rfl | exact Hd.cells (k := 3) rfl rfl) (by exact sz_32) (by first | (simp [ws8_len, two, hx0, hx1, hy0, hy1]; done) | rfl)) rfl ?_
    refine GL.val (rv_loadAL ag_32 rfl (by first | exact Hd.cellsAll (k := 2) rfl | exact Hd.cells (k := 2) rfl rfl) (by exact sz_32) (by first | (simp [ws8_len, two, hx0, hx1, hy0, hy1]; done) | rfl)) rfl ?_
    refine GL.val (rv_eq32 rfl rfl hx0 hx1 hy0 hy1) rfl ?_
    refine GL.val (rv_assign rfl) rfl ?_
    refine GL.nil ?_
    refine GX.then ?_
    refine GC.seq ?_
    refine GC.seq ?_
    refine GC.draw 28 [0, 1, 2, 3] mo_ ?_
    refine GD.pure (i := 0) rfl (fun _ _ => rv_elemAJ (q := 0) (0) as_32 rfl rfl (by first | rfl | omega) (by omega) (by first | rfl | omega)) (by kernel_rfl) (by repeat (first | exact noPanicPut_body | exact noPanicPut_cut | exact noPanicPut_cutE | refine noPanicPut_then ?_ | refine noPanicPut_blk ?_)) ?_
    refine GD.pure (i := 2) rfl (fun _ _ => rv_elemAJ (q := 32) (1) as_32 rfl rfl (by first | rfl | omega) (by omega) (by first | rfl | omega)) (by kernel_rfl) (by repeat (first | exact noPanicPut_body | exact noPanicPut_cut | exact noPanicPut_cutE | refine noPanicPut_then ?_ | refine noPanicPut_blk ?_)) ?_
    refine GD.pure (i := 5) rfl (fun _ _ => rv_elemAJ (q := 0) (0) as_32 rfl rfl (by first | rfl | omega) (by omega) (by first | rfl | omega)) (by kernel_rfl) (by repeat (first | exact noPanicPut_body | exact noPanicPut_cut | exact noPanicPut_cutE | refine noPanicPut_then ?_ | refine noPanicPut_blk ?_)) ?_
    refine GD.pure (i := 7) rfl (fun _ _ => rv_elemAJ (q := 32) (1) as_32 rfl rfl (by first | rfl | omega) (by omega) (by first | rfl | omega)) (by kernel_rfl) (by repeat (first | exact noPanicPut_body | exact noPanicPut_cut | exact noPanicPut_cutE | refine noPanicPut_then ?_ | refine noPanicPut_blk ?_)) ?_
    refine GD.pure (i := 11) rfl (fun _ _ => rv_move rfl) (by kernel_rfl) (by repeat (first | exact noPanicPut_body | exact noPanicPut_cut | exact noPanicPut_cutE | refine noPanicPut_then ?_ | refine noPanicPut_blk ?_)) ?_
    refine GD.read (i := 1) rfl (rv_loadAL ag_24 rfl ((Hd.cells (k := 3) (us := ws8 x0) rfl two_0)) (by exact sz_24) (by first | (simp [ws8_len, two, hx0, hx1, hy0, hy1]; done) | rfl)) (by kernel_rfl) (by repeat (first | exact noPanicPut_body | exact noPanicPut_cut | exact noPanicPut_cutE | refine noPanicPut_then ?_ | refine noPanicPut_blk ?_)) ?_
    refine GD.read (i := 3) rfl (rv_loadAL ag_24 rfl ((Hd.cells (k := 3) (us := ws8 x1) rfl (two_1 (by assumption)))) (by exact sz_24) (by first | (simp [ws8_len, two, hx0, hx1, hy0, hy1]; done) | rfl)) (by kernel_rfl) (by repeat (first | exact noPanicPut_body | exact noPanicPut_cut | exact noPanicPut_cutE | refine noPanicPut_then ?_ | refine noPanicPut_blk ?_)) ?_
    refine GD.read (i := 6) rfl (rv_loadAL ag_24 rfl ((Hd.cells (k := 2) (us := ws8 y0) rfl two_0)) (by exact sz_24) (by first | (simp [ws8_len, two, hx0, hx1, hy0, hy1]; done) | rfl)) (by kernel_rfl) (by repeat (first | exact noPanicPut_body | exact noPanicPut_cut | exact noPanicPut_cutE | refine noPanicPut_then ?_ | refine noPanicPut_blk ?_)) ?_
    refine GD.read (i := 8) rfl (rv_loadAL ag_24 rfl ((Hd.cells (k := 2) (us := ws8 y1) rfl (two_1 (by assumption)))) (by exact sz_24) (by first | (simp [ws8_len, two, hx0, hx1, hy0, hy1]; done) | rfl)) (by kernel_rfl) (by repeat (first | exact noPanicPut_body | exact noPanicPut_cut | exact noPanicPut_cutE | refine noPanicPut_then ?_ | refine noPanicPut_blk ?_)) ?_
    refine GD.step (i := 4) (by kernel_rfl) rfl (ot_call hb_17 rfl (callOk fun w hh => leaf_c x0 x1 w hx0 hx1) rfl fun g27 h27 => ⟨.inr fun _ h => h.pk [1, 2, 3, 4], ?_⟩)
    refine GD.step (i := 9) (by kernel_rfl) rfl (ot_call hb_17 rfl (callOk fun w hh => leaf_c y0 y1 w hy0 hy1) rfl fun g32 h32 => ⟨.inr fun _ h => h.pk [2, 3, 4, 5], ?_⟩)
    refine GD.step (i := 10) (by kernel_rfl) rfl (ot_call hb_13 rfl (callOk fun w hh => sameb_c g27.1 g32.1 g27.2 g32.2 _ _ (76 :: (x0 ++ x1)) (76 :: (y0 ++ y1)) w (hh.ro (k := 1) rfl) (hh.ro (k := 0) rfl) rfl rfl) rfl fun _ _ => ⟨.inr fun _ h => h.pk [2, 3, 4, 5], ?_⟩)
    refine GD.pure (i := 12) rfl (fun _ _ => rv_to (v' := .bool false) (rv_neB rfl rfl (run_eqBool Try.underlying4)) (by simp [two_inj (hx0.trans hy0.symm)])) (by kernel_rfl) (by repeat (first | exact noPanicPut_body | exact noPanicPut_cut | exact noPanicPut_cutE | refine noPanicPut_then ?_ | refine noPanicPut_blk ?_)) ?_
    refine GD.pure (i := 13) rfl (fun _ _ => rv_move rfl) (by kernel_rfl) (by repeat (first | exact noPanicPut_body | exact noPanicPut_cut | exact noPanicPut_cutE | refine noPanicPut_then ?_ | refine noPanicPut_blk ?_)) ?_
    first | refine GD.skipG (i := 14) rfl rfl (by kernel_rfl) (by repeat (first | exact noPanicPut_body | exact noPanicPut_cut | exact noPanicPut_cutE | refine noPanicPut_then ?_ | refine noPanicPut_blk ?_)) ?_ | refine GD.pureG (i := 14) rfl rfl (fun _ _ => rv_elemAJ (q := 0) (0) as_32 rfl rfl (by first | rfl | omega) (by omega) (by first | rfl | omega)) (by kernel_rfl) (by repeat (first | exact noPanicPut_body | exact noPanicPut_cut | exact noPanicPut_cutE | refine noPanicPut_then ?_ | refine noPanicPut_blk ?_)) ?_
    first | refine GD.skipG (i := 16) rfl rfl (by kernel_rfl) (by repeat (first | exact noPanicPut_body | exact noPanicPut_cut | exact noPanicPut_cutE | refine noPanicPut_then ?_ | refine noPanicPut_blk ?_)) ?_ | refine GD.pureG (i := 16) rfl rfl (fun _ _ => rv_elemAJ (q := 32) (1) as_32 rfl rfl (by first | rfl | omega) (by omega) (by first | rfl | omega)) (by kernel_rfl) (by repeat (first | exact noPanicPut_body | exact noPanicPut_cut | exact noPanicPut_cutE | refine noPanicPut_then ?_ | refine noPanicPut_blk ?_)) ?_
    first | refine GD.skipG (i := 19) rfl rfl (by kernel_rfl) (by repeat (first | exact noPanicPut_body | exact noPanicPut_cut | exact noPanicPut_cutE | refine noPanicPut_then ?_ | refine noPanicPut_blk ?_)) ?_ | refine GD.pureG (i := 19) rfl rfl (fun _ _ => rv_elemAJ (q := 0) (0) as_32 rfl rfl (by first | rfl | omega) (by omega) (by first | rfl | omega)) (by kernel_rfl) (by repeat (first | exact noPanicPut_body | exact noPanicPut_cut | exact noPanicPut_cutE | refine noPanicPut_then ?_ | refine noPanicPut_blk ?_)) ?_
    first | refine GD.skipG (i := 21) rfl rfl (by kernel_rfl) (by repeat (first | exact noPanicPut_body | exact noPanicPut_cut | exact noPanicPut_cutE | refine noPanicPut_then ?_ | refine noPanicPut_blk ?_)) ?_ | refine GD.pureG (i := 21) rfl rfl (fun _ _ => rv_elemAJ (q := 32) (1) as_32 rfl rfl (by first | rfl | omega) (by omega) (by first | rfl | omega)) (by kernel_rfl) (by repeat (first | exact noPanicPut_body | exact noPanicPut_cut | exact noPanicPut_cutE | refine noPanicPut_then ?_ | refine noPanicPut_blk ?_)) ?_
    first | refine GD.skipG (i := 25) rfl rfl (by kernel_rfl) (by repeat (first | exact noPanicPut_body | exact noPanicPut_cut | exact noPanicPut_cutE | refine noPanicPut_then ?_ | refine noPanicPut_blk ?_)) ?_ | refine GD.pureG (i := 25) rfl rfl (fun _ _ => rv_move rfl) (by kernel_rfl) (by repeat (first | exact noPanicPut_body | exact noPanicPut_cut | exact noPanicPut_cutE | refine noPanicPut_then ?_ | refine noPanicPut_blk ?_)) ?_
    first | refine GD.skipG (i := 15) rfl rfl (by kernel_rfl) (by repeat (first | exact noPanicPut_body | exact noPanicPut_cut | exact noPanicPut_cutE | refine noPanicPut_then ?_ | refine noPanicPut_blk ?_)) ?_ | refine GD.readG (i := 15) rfl rfl (rv_loadAL ag_24 rfl ((Hd.cells (k := 3) (us := ws8 x0) rfl two_0)) (by exact sz_24) (by first | (simp [ws8_len, two, hx0, hx1, hy0, hy1]; done) | rfl)) (by kernel_rfl) (by repeat (first | exact noPanicPut_body | exact noPanicPut_cut | exact noPanicPut_cutE | refine noPanicPut_then ?_ | refine noPanicPut_blk ?_)) ?_
    first | refine GD.skipG (i := 17) rfl rfl (by kernel_rfl) (by repeat (first | exact noPanicPut_body | exact noPanicPut_cut | exact noPanicPut_cutE | refine noPanicPut_then ?_ | refine noPanicPut_blk ?_)) ?_ | refine GD.readG (i := 17) rfl rfl (rv_loadAL ag_24 rfl ((Hd.cells (k := 3) (us := ws8 x1) rfl (two_1 (by assumption)))) (by exact sz_24) (by first | (simp [ws8_len, two, hx0, hx1, hy0, hy1]; done) | rfl)) (by kernel_rfl) (by repeat (first | exact noPanicPut_body | exact noPanicPut_cut | exact noPanicPut_cutE | refine noPanicPut_then ?_ | refine noPanicPut_blk ?_)) ?_
    first | refine GD.skipG (i := 20) rfl rfl (by kernel_rfl) (by repeat (first | exact noPanicPut_body | exact noPanicPut_cut | exact noPanicPut_cutE | refine noPanicPut_then ?_ | refine noPanicPut_blk ?_)) ?_ | refine GD.readG (i := 20) rfl rfl (rv_loadAL ag_24 rfl ((Hd.cells (k := 2) (us := ws8 y0) rfl two_0)) (by exact sz_24) (by first | (simp [ws8_len, two, hx0, hx1, hy0, hy1]; done) | rfl)) (by kernel_rfl) (by repeat (first | exact noPanicPut_body | exact noPanicPut_cut | exact noPanicPut_cutE | refine noPanicPut_then ?_ | refine noPanicPut_blk ?_)) ?_
    first | refine GD.skipG (i := 22) rfl rfl (by kernel_rfl) (by repeat (first | exact noPanicPut_body | exact noPanicPut_cut | exact noPanicPut_cutE | refine noPanicPut_then ?_ | refine noPanicPut_blk ?_)) ?_ | refine GD.readG (i := 22) rfl rfl (rv_loadAL ag_24 rfl ((Hd.cells (k := 2) (us := ws8 y1) rfl (two_1 (by assumption)))) (by exact sz_24) (by first | (simp [ws8_len, two, hx0, hx1, hy0, hy1]; done) | rfl)) (by kernel_rfl) (by repeat (first | exact noPanicPut_body | exact noPanicPut_cut | exact noPanicPut_cutE | refine noPanicPut_then ?_ | refine noPanicPut_blk ?_)) ?_
    first | refine GD.skipG (i := 18) rfl rfl (by kernel_rfl) (by repeat (first | exact noPanicPut_body | exact noPanicPut_cut | exact noPanicPut_cutE | refine noPanicPut_then ?_ | refine noPanicPut_blk ?_)) ?_ | refine GD.stepG (i := 18) (by kernel_rfl) rfl rfl (ot_call hb_18 rfl (callOk fun w hh => node_c x0 x1 w hx0 hx1) rfl fun g41 h41 => ⟨.inr fun _ h => h.pk [3, 4, 5, 6], ?_⟩)
    first | refine GD.skipG (i := 23) rfl rfl (by kernel_rfl) (by repeat (first | exact noPanicPut_body | exact noPanicPut_cut | exact noPanicPut_cutE | refine noPanicPut_then ?_ | refine noPanicPut_blk ?_)) ?_ | refine GD.stepG (i := 23) (by kernel_rfl) rfl rfl (ot_call hb_18 rfl (callOk fun w hh => node_c y0 y1 w hy0 hy1) rfl fun g46 h46 => ⟨.inr fun _ h => h.pk [4, 5, 6, 7], ?_⟩)
    first | refine GD.skipG (i := 24) rfl rfl (by kernel_rfl) (by repeat (first | exact noPanicPut_body | exact noPanicPut_cut | exact noPanicPut_cutE | refine noPanicPut_then ?_ | refine noPanicPut_blk ?_)) ?_ | refine GD.stepG (i := 24) (by kernel_rfl) rfl rfl (ot_call hb_13 rfl (callOk fun w hh => sameb_c g41.1 g46.1 g41.2 g46.2 _ _ (78 :: (x0 ++ x1)) (78 :: (y0 ++ y1)) w (hh.ro (k := 1) rfl) (hh.ro (k := 0) rfl) rfl rfl) rfl fun _ _ => ⟨.inr fun _ h => h.pk [4, 5, 6, 7], ?_⟩)
    first | refine GD.skipG (i := 26) rfl rfl (by kernel_rfl) (by repeat (first | exact noPanicPut_body | exact noPanicPut_cut | exact noPanicPut_cutE | refine noPanicPut_then ?_ | refine noPanicPut_blk ?_)) ?_ | refine GD.pureG (i := 26) rfl rfl (fun _ _ => rv_to (v' := .bool false) (rv_neB rfl rfl (run_eqBool Try.underlying4)) (by simp [two_inj (hx0.trans hy0.symm)])) (by kernel_rfl) (by repeat (first | exact noPanicPut_body | exact noPanicPut_cut | exact noPanicPut_cutE | refine noPanicPut_then ?_ | refine noPanicPut_blk ?_)) ?_
    refine GD.pure (i := 27) rfl (fun _ _ => (by first | exact rv_orF rfl rfl rfl | exact rv_orT rfl rfl rfl | exact rv_pickOr rfl rfl rfl)) (by kernel_rfl) (by repeat (first | exact noPanicPut_body | exact noPanicPut_cut | exact noPanicPut_cutE | refine noPanicPut_then ?_ | refine noPanicPut_blk ?_)) ?_
    refine GD.done (by kernel_rfl) ?_
    refine GX.then ?_
    first | refine GC.condP rfl (fun c50 => ?_) (fun c50 => ?_) | refine GC.cond rfl (fun c50 => ?_) (fun c50 => ?_)
    · exact absurd c50 (by simp)
    · refine GC.skip ?_
      refine GX.then ?_
      refine GC.seq ?_
      refine GC.cutq (γ := Unit) [7, 6, 5, 4] [7, 6, 5, 4, 3, 2, 1, 0] (fun g Lk => (10, .bool (decide (x0 = y0 ∧ (nm = nm2 ∧ ser = ser2 ∧ key = key2)))) :: Lk) (fun g Fk => Fk) (fun g => True) rfl rfl ?_ (fun _ _ => ?_)
      · by_cases h : x0 = y0
        · rw [show decide (x0 = y0 ∧ (nm = nm2 ∧ ser = ser2 ∧ key = key2)) = decide (nm = nm2 ∧ ser = ser2 ∧ key = key2) from decide_eq_decide.2 ⟨fun q => q.2, fun q => ⟨h, q⟩⟩]
          refine GC.reg ?_
          refine GL.val (rv_elemAJ (q := 0) (0) as_32 rfl rfl (by first | rfl | omega) (by omega) (by first | rfl | omega)) rfl ?_
          refine GL.val (rv_loadAL ag_24 rfl ((Hd.cells (k := 7) (us := ws8 x0) rfl two_0)) (by exact sz_24) (by first | (simp [ws8_len, two, hx0, hx1, hy0, hy1]; done) | rfl)) rfl ?_
          refine GL.val (rv_elemAJ (q := 0) (0) as_32 rfl rfl (by first | rfl | omega) (by omega) (by first | rfl | omega)) rfl ?_
          refine GL.val (rv_loadAL ag_24 rfl ((Hd.cells (k := 6) (us := ws8 y0) rfl two_0)) (by exact sz_24) (by first | (simp [ws8_len, two, hx0, hx1, hy0, hy1]; done) | rfl)) rfl ?_
          refine GL.val ((by first | exact rv_to (v' := .bool true) (rv_eq24 rfl rfl hx0 hy0) (by simp only [Value.bool.injEq, decide_eq_true_eq, decide_eq_false_iff_not]; first | assumption | omega) | exact rv_to (v' := .bool false) (rv_eq24 rfl rfl hx0 hy0) (by simp only [Value.bool.injEq, decide_eq_true_eq, decide_eq_false_iff_not]; first | assumption | omega))) rfl ?_
          refine GL.val (rv_move rfl) rfl ?_
          first | refine GL.skipG rfl rfl ?_ | refine GL.skipU rfl rfl ?_ | refine GL.valT rfl (rv_loadAL ag_34 rfl (by first | exact Hd.cellsAll (k := 5) rfl | exact Hd.cells (k := 5) rfl rfl) (by exact sz_34) (by first | (simp [ws8_len, two, hx0, hx1, hy0, hy1]; done) | rfl)) rfl ?_ | refine GL.valG rfl (fun hb => rv_loadAL ag_34 (by first | exact evb rfl hb | rfl) (by first | exact Hd.cellsAll (k := 5) (by first | exact evb rfl hb | rfl) | exact Hd.cells (k := 5) (by first | exact evb rfl hb | rfl) (by first | exact evb rfl hb | rfl)) (by exact sz_34) (by first | (simp [ws8_len, two, hx0, hx1, hy0, hy1]; done) | rfl)) rfl ?_
          first | refine GL.skipG rfl rfl ?_ | refine GL.skipU rfl rfl ?_ | refine GL.valT rfl (rv_loadAL ag_34 rfl (by first | exact Hd.cellsAll (k := 4) rfl | exact Hd.cells (k := 4) rfl rfl) (by exact sz_34) (by first | (simp [ws8_len, two, hx0, hx1, hy0, hy1]; done) | rfl)) rfl ?_ | refine GL.valG rfl (fun hb => rv_loadAL ag_34 (by first | exact evb rfl hb | rfl) (by first | exact Hd.cellsAll (k := 4) (by first | exact evb rfl hb | rfl) | exact Hd.cells (k := 4) (by first | exact evb rfl hb | rfl) (by first | exact evb rfl hb | rfl)) (by exact sz_34) (by first | (simp [ws8_len, two, hx0, hx1, hy0, hy1]; done) | rfl)) rfl ?_
          first | refine GL.skipG rfl rfl ?_ | refine GL.skipU rfl rfl ?_ | refine GL.stepG rfl (ot_call hb_19 rfl (callOk fun w hh => sbind_c nm key kA kc ser nm2 key2 kA2 kc2 ser2 w (hh.rd0n hk) (hh.rd0n hk2)) rfl fun _ _ => ?_)
          refine GL.val ((by first | exact rv_andT rfl rfl rfl | exact rv_andF rfl rfl rfl | exact rv_pickAnd rfl rfl rfl)) rfl ?_
          refine GL.val (rv_assign rfl) rfl ?_
          refine GL.nil ?_
          exact GX.cutq () trivial (by repeat (first | exact Sub.nil | refine Sub.cons rfl ?_)) (fun w9 h => by
              exact h)
        · rw [show decide (x0 = y0 ∧ (nm = nm2 ∧ ser = ser2 ∧ key = key2)) = false from decide_eq_false (fun q => h q.1)]
          refine GC.reg ?_
          refine GL.val (rv_elemAJ (q := 0) (0) as_32 rfl rfl (by first | rfl | omega) (by omega) (by first | rfl | omega)) rfl ?_
          refine GL.val (rv_loadAL ag_24 rfl ((Hd.cells (k := 7) (us := ws8 x0) rfl two_0)) (by exact sz_24) (by first | (simp [ws8_len, two, hx0, hx1, hy0, hy1]; done) | rfl)) rfl ?_
          refine GL.val (rv_elemAJ (q := 0) (0) as_32 rfl rfl (by first | rfl | omega) (by omega) (by first | rfl | omega)) rfl ?_
          refine GL.val (rv_loadAL ag_24 rfl ((Hd.cells (k := 6) (us := ws8 y0) rfl two_0)) (by exact sz_24) (by first | (simp [ws8_len, two, hx0, hx1, hy0, hy1]; done) | rfl)) rfl ?_
          refine GL.val ((by first | exact rv_to (v' := .bool true) (rv_eq24 rfl rfl hx0 hy0) (by simp only [Value.bool.injEq, decide_eq_true_eq, decide_eq_false_iff_not]; first | assumption | omega) | exact rv_to (v' := .bool false) (rv_eq24 rfl rfl hx0 hy0) (by simp only [Value.bool.injEq, decide_eq_true_eq, decide_eq_false_iff_not]; first | assumption | omega))) rfl ?_
          refine GL.val (rv_move rfl) rfl ?_
          first | refine GL.skipG rfl rfl ?_ | refine GL.skipU rfl rfl ?_ | refine GL.valT rfl (rv_loadAL ag_34 rfl (by first | exact Hd.cellsAll (k := 5) rfl | exact Hd.cells (k := 5) rfl rfl) (by exact sz_34) (by first | (simp [ws8_len, two, hx0, hx1, hy0, hy1]; done) | rfl)) rfl ?_ | refine GL.valG rfl (fun hb => rv_loadAL ag_34 (by first | exact evb rfl hb | rfl) (by first | exact Hd.cellsAll (k := 5) (by first | exact evb rfl hb | rfl) | exact Hd.cells (k := 5) (by first | exact evb rfl hb | rfl) (by first | exact evb rfl hb | rfl)) (by exact sz_34) (by first | (simp [ws8_len, two, hx0, hx1, hy0, hy1]; done) | rfl)) rfl ?_
          first | refine GL.skipG rfl rfl ?_ | refine GL.skipU rfl rfl ?_ | refine GL.valT rfl (rv_loadAL ag_34 rfl (by first | exact Hd.cellsAll (k := 4) rfl | exact Hd.cells (k := 4) rfl rfl) (by exact sz_34) (by first | (simp [ws8_len, two, hx0, hx1, hy0, hy1]; done) | rfl)) rfl ?_ | refine GL.valG rfl (fun hb => rv_loadAL ag_34 (by first | exact evb rfl hb | rfl) (by first | exact Hd.cellsAll (k := 4) (by first | exact evb rfl hb | rfl) | exact Hd.cells (k := 4) (by first | exact evb rfl hb | rfl) (by first | exact evb rfl hb | rfl)) (by exact sz_34) (by first | (simp [ws8_len, two, hx0, hx1, hy0, hy1]; done) | rfl)) rfl ?_
          first | refine GL.skipG rfl rfl ?_ | refine GL.skipU rfl rfl ?_ | refine GL.stepG rfl (ot_call hb_19 rfl (callOk fun w hh => sbind_c nm key kA kc ser nm2 key2 kA2 kc2 ser2 w (hh.rd0n hk) (hh.rd0n hk2)) rfl fun _ _ => ?_)
          refine GL.val ((by first | exact rv_andT rfl rfl rfl | exact rv_andF rfl rfl rfl | exact rv_pickAnd rfl rfl rfl)) rfl ?_
          refine GL.val (rv_assign rfl) rfl ?_
          refine GL.nil ?_
          exact GX.cutq () trivial (by repeat (first | exact Sub.nil | refine Sub.cons rfl ?_)) (fun w9 h => by
              exact h)
      refine GX.then ?_
      refine GC.seq ?_
      refine GC.draw 15 [0, 1, 2, 3, 4, 5, 6, 7] mo_ ?_
      refine GD.pure (i := 0) rfl (fun _ _ => rv_elemAJ (q := 0) (0) as_32 rfl rfl (by first | rfl | omega) (by omega) (by first | rfl | omega)) (by kernel_rfl) (by repeat (first | exact noPanicPut_body | exact noPanicPut_cut | exact noPanicPut_cutE | refine noPanicPut_then ?_ | refine noPanicPut_blk ?_)) ?_
      refine GD.pure (i := 4) rfl (fun _ _ => rv_elemAJ (q := 0) (0) as_32 rfl rfl (by first | rfl | omega) (by omega) (by first | rfl | omega)) (by kernel_rfl) (by repeat (first | exact noPanicPut_body | exact noPanicPut_cut | exact noPanicPut_cutE | refine noPanicPut_then ?_ | refine noPanicPut_blk ?_)) ?_
      refine GD.pure (i := 9) rfl (fun _ _ => rv_move rfl) (by kernel_rfl) (by repeat (first | exact noPanicPut_body | exact noPanicPut_cut | exact noPanicPut_cutE | refine noPanicPut_then ?_ | refine noPanicPut_blk ?_)) ?_
      refine GD.read (i := 1) rfl (rv_loadAL ag_24 rfl ((Hd.cells (k := 7) (us := ws8 x0) rfl two_0)) (by exact sz_24) (by first | (simp [ws8_len, two, hx0, hx1, hy0, hy1]; done) | rfl)) (by kernel_rfl) (by repeat (first | exact noPanicPut_body | exact noPanicPut_cut | exact noPanicPut_cutE | refine noPanicPut_then ?_ | refine noPanicPut_blk ?_)) ?_
      refine GD.read (i := 2) rfl (rv_loadAL ag_34 rfl (by first | exact Hd.cellsAll (k := 5) rfl | exact Hd.cells (k := 5) rfl rfl) (by exact sz_34) (by first | (simp [ws8_len, two, hx0, hx1, hy0, hy1]; done) | rfl)) (by kernel_rfl) (by repeat (first | exact noPanicPut_body | exact noPanicPut_cut | exact noPanicPut_cutE | refine noPanicPut_then ?_ | refine noPanicPut_blk ?_)) ?_
      refine GD.read (i := 5) rfl (rv_loadAL ag_24 rfl ((Hd.cells (k := 6) (us := ws8 y0) rfl two_0)) (by exact sz_24) (by first | (simp [ws8_len, two, hx0, hx1, hy0, hy1]; done) | rfl)) (by kernel_rfl) (by repeat (first | exact noPanicPut_body | exact noPanicPut_cut | exact noPanicPut_cutE | refine noPanicPut_then ?_ | refine noPanicPut_blk ?_)) ?_
      refine GD.read (i := 6) rfl (rv_loadAL ag_34 rfl (by first | exact Hd.cellsAll (k := 4) rfl | exact Hd.cells (k := 4) rfl rfl) (by exact sz_34) (by first | (simp [ws8_len, two, hx0, hx1, hy0, hy1]; done) | rfl)) (by kernel_rfl) (by repeat (first | exact noPanicPut_body | exact noPanicPut_cut | exact noPanicPut_cutE | refine noPanicPut_then ?_ | refine noPanicPut_blk ?_)) ?_
      refine GD.step (i := 3) (by kernel_rfl) rfl (ot_call hb_20 rfl (callOk fun w hh => value_c x0 nm key kA kc ser w hx0 (hh.rd0n hk) (by omega) (by omega)) rfl fun g64 h64 => ⟨.inr fun _ h => h.pk [1, 2, 3, 4, 5, 6, 7, 8], ?_⟩)
      refine GD.step (i := 7) (by kernel_rfl) rfl (ot_call hb_20 rfl (callOk fun w hh => value_c y0 nm2 key2 kA2 kc2 ser2 w hy0 (hh.rd0n hk2) (by omega) (by omega)) rfl fun g68 h68 => ⟨.inr fun _ h => h.pk [2, 3, 4, 5, 6, 7, 8, 9], ?_⟩)
      refine GD.step (i := 8) (by kernel_rfl) rfl (ot_call hb_13 rfl (callOk fun w hh => sameb_c g64.1 g68.1 g64.2 g68.2 _ _ (vbytes x0 nm key ser) (vbytes y0 nm2 key2 ser2) w (hh.ro (k := 1) rfl) (hh.ro (k := 0) rfl) rfl rfl) rfl fun _ _ => ⟨.inr fun _ h => h.pk [2, 3, 4, 5, 6, 7, 8, 9], ?_⟩)
      refine GD.pure (i := 10) rfl (fun _ _ => rv_to (v' := .bool true) (rv_eqB rfl rfl (run_eqBool Try.underlying4)) (by simp [vbytes_inj hx0 hy0 (show nm.size ≤ 1000000 by omega) (show nm2.size ≤ 1000000 by omega)])) (by kernel_rfl) (by repeat (first | exact noPanicPut_body | exact noPanicPut_cut | exact noPanicPut_cutE | refine noPanicPut_then ?_ | refine noPanicPut_blk ?_)) ?_
      refine GD.pure (i := 11) rfl (fun _ _ => rv_move rfl) (by kernel_rfl) (by repeat (first | exact noPanicPut_body | exact noPanicPut_cut | exact noPanicPut_cutE | refine noPanicPut_then ?_ | refine noPanicPut_blk ?_)) ?_
      first | refine GD.skipG (i := 12) rfl rfl (by kernel_rfl) (by repeat (first | exact noPanicPut_body | exact noPanicPut_cut | exact noPanicPut_cutE | refine noPanicPut_then ?_ | refine noPanicPut_blk ?_)) ?_ | refine GD.stepG (i := 12) (by kernel_rfl) rfl rfl (ot_call hb_15 rfl (callOk fun w hh => works_c w) rfl fun _ _ => ⟨.inr fun _ h => h.pk [2, 3, 4, 5, 6, 7, 8, 9], ?_⟩)
      refine GD.pure (i := 13) rfl (fun _ _ => (by first | exact rv_andT rfl rfl rfl | exact rv_andF rfl rfl rfl | exact rv_pickAnd rfl rfl rfl)) (by kernel_rfl) (by repeat (first | exact noPanicPut_body | exact noPanicPut_cut | exact noPanicPut_cutE | refine noPanicPut_then ?_ | refine noPanicPut_blk ?_)) ?_
      refine GD.pure (i := 14) rfl (fun _ _ => rv_assign rfl) (by kernel_rfl) (by repeat (first | exact noPanicPut_body | exact noPanicPut_cut | exact noPanicPut_cutE | refine noPanicPut_then ?_ | refine noPanicPut_blk ?_)) ?_
      refine GD.done (by kernel_rfl) ?_
      refine GX.then ?_
      refine GC.ret ?_
      refine GX.ret1 rfl (RR.tmp rfl) ?_
      exact fun w9 h => ⟨(), rfl, by
          have h := h.sel [] rfl rfl
          exact h, trivial⟩
end Go.Proofs.Ytaocclmdlpnjbaa
