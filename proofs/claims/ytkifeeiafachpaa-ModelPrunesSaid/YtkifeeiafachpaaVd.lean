import Derived.Test.YtkifeeiafachpaaVc
set_option linter.unusedVariables false
set_option linter.unusedSimpArgs false
namespace Go.Proofs.Ytkifeeiafachpaa
open Go Go.RowKit Go.Bz
theorem ag_31 : aggB Try.prog 31 = some true := by kernel_rfl
theorem ag_49 : aggB Try.prog 49 = some true := by kernel_rfl
theorem fo_31_3 : fieldOff Try.prog 31 3 = some 3 := by kernel_rfl
theorem hb_51 : hasBody Try.prog 51 = true := by kernel_rfl
theorem hb_61 : hasBody Try.prog 61 = true := by kernel_rfl
theorem hb_62 : hasBody Try.prog 62 = true := by kernel_rfl
theorem sz_49 : (Try.prog.info? 49).map (·.size) = some 3 := by kernel_rfl
/-! a digest that is not another; the policy, plain -/
section
variable {L : List (Nat × Value)} {Fs : List Pc} {ty : TypeId} {x y : Operand}
theorem rv_neDeep {K : Nat → Prop} {w0 : World} {n m : Nat} {t t' : TypeId} {a b : List Value} {la lb : List Lit} {P : Program} (ex : ev L x = some (.agg a.toArray)) (ey : ev L y = some (.agg b.toArray)) (hg : P.eqGuardType P.depth t = false) (hm : m ≤ 10000) (hk : P.keyTypeAt m t = true)
    (ha : (Value.agg a.toArray).formed P t = true) (hb : (Value.agg b.toArray).formed P t = true) (hla : P.keyLits 10 t a = some la) (hlb : P.keyLits 10 t b = some lb) {p : Prop} [Decidable p] (hp : la = lb ↔ p) : RV P K w0 n L Fs (.binOp .neq t x y t') ty (.bool (!decide p)) :=
  rv_bin ex ey fun w => by
    have e1 : (eqGuard .neq t x y (.agg a.toArray) (.agg b.toArray)).run P w = .ok () w := by
      simp [eqGuard, hg, go_sem]
    have hd := run_equalIn_deep (P := P) (10000 - m) m t hk w 10 10 (.agg a.toArray) (.agg b.toArray) la lb ha hb hla hlb
    rw [show 10000 - m + m = 10000 by omega] at hd
    obtain ⟨r, hr, hiff⟩ := hd
    have e2 : binOp .neq t (.agg a.toArray) (.agg b.toArray) = (do pure (.bool (!(← Op.equal t (.agg a.toArray) (.agg b.toArray))))) := rfl
    have e3 : (Op.equal t (.agg a.toArray) (.agg b.toArray)).run P w = .ok r w := hr
    have e4 : r = decide p := by
      rw [Bool.eq_iff_iff, hiff, hp]; simp
    rw [Sem.run_bind, e1, Result.andThen_ok, e2, Sem.run_bind, e3, e4]; rfl
theorem rv_ne24 {K : Nat → Prop} {w0 : World} {n : Nat} {t' : TypeId} {a b : Sh.B} (ex : ev L x = some (.agg (ws8 a).toArray)) (ey : ev L y = some (.agg (ws8 b).toArray)) (ha : a.length = 32) (hb : b.length = 32) : RV Try.prog K w0 n L Fs (.binOp .neq 29 x y t') ty (.bool (!decide (a = b))) :=
  rv_neDeep ex ey egt24 (by decide) ktt24 (formed24 a ha) (formed24 b hb) (keyLits_arr (d := 8) Try.underlying29 Try.underlying5 cells24 cells5 a ha) (keyLits_arr (d := 8) Try.underlying29 Try.underlying5 cells24 cells5 b hb) lits8_inj
end
def zdg : Sh.B := List.replicate 32 0
theorem zdg_len : zdg.length = 32 := by simp [zdg]
def nxt (hv : Bool) (cn : ByteArray) (ck : Sh.B) (cs : UInt64) (kd : Int) (qn : ByteArray) (qk dg : Sh.B) : Int :=
  if pchk kd qn qk ≠ 0 then pchk kd qn qk
  else if hv = true ∧ cn ≠ qn then 1
  else if kd = 1 then (if hv = true then 6 else if dg ≠ zdg then 8 else 0)
  else if hv = false then 7
  else if cs = 18446744073709551615 then 12
  else if dg ≠ auth ck qn (cs + 1) qk then 8 else 0
def nser (kd : Int) (cs : UInt64) : UInt64 := if kd = 1 then 1 else cs + 1
def rn (c : Int) (qn : ByteArray) : ByteArray := if c = 0 then qn else ByteArray.empty
def rk (c : Int) (qk : Sh.B) : Sh.B := if c = 0 then qk else []
def rs (c : Int) (s : UInt64) : UInt64 := if c = 0 then s else 0
theorem rn_no {c : Int} (h : c ≠ 0) (q : ByteArray) : rn c q = ByteArray.empty := if_neg h
theorem rk_no {c : Int} (h : c ≠ 0) (q : Sh.B) : rk c q = [] := if_neg h
theorem rs_no {c : Int} (h : c ≠ 0) (q : UInt64) : rs c q = 0 := if_neg h
theorem rn_0 (q : ByteArray) : rn 0 q = q := rfl
theorem rk_0 (q : Sh.B) : rk 0 q = q := rfl
theorem rs_0 (q : UInt64) : rs 0 q = q := rfl
set_option maxRecDepth 100000 in
set_option maxHeartbeats 1000000 in
theorem next_c (hv : Bool) (cn : ByteArray) (ck : Sh.B) (cA : Option Addr) (cc : Nat) (cs : UInt64) (kd : Int) (qn : ByteArray) (qk : Sh.B) (qA : Option Addr) (qc : Nat) (dg : Sh.B) (w : World) (hck : SlR w cA (byts ck)) (hcc : ck.length ≤ cc) (hckl : ck.length ≤ 2000) (hd : dg.length = 32) (hqs : qn.size < 4611686018427387904) (hqk : SlR w qA (byts qk)) (hqc : qk.length ≤ qc) (hqkl : qk.length ≤ 2000) : Calls Try.prog 52 [.agg (bcell cn ck cA cc cs).toArray, .bool hv, .agg (qcell kd qn qk qA qc dg).toArray].toArray w fun e w' => ∃ g : Option Addr × Nat, e = .returned (.tuple #[.agg (bcell (rn (nxt hv cn ck cs kd qn qk dg) qn) (rk (nxt hv cn ck cs kd qn qk dg) qk) g.1 g.2 (rs (nxt hv cn ck cs kd qn qk dg) (nser kd cs))).toArray, .int .i64 (nxt hv cn ck cs kd qn qk dg)]) ∧ St noB w w' [roP g.1 (byts (rk (nxt hv cn ck cs kd qn qk dg) qk))] ∧ (rk (nxt hv cn ck cs kd qn qk dg) qk).length ≤ g.2 := by
  refine GC.calls Try.func52 rfl rfl (St.begin _) ?_
  refine GC.seq ?_
  refine GC.reg ?_
  refine GL.step (ot_box rfl rfl rfl fun b3 => ?_)
  refine GL.step (ot_box rfl rfl rfl fun b5 => ?_)
  refine GL.step (ot_alloc (zs := [.string ByteArray.empty, .slice none 0 0, .int .u64 0]) zb_49 rfl rfl fun b6 => ?_)
  refine GL.val (rv_assign rfl) rfl ?_
  refine GL.nil ?_
  refine GX.then ?_
  refine GC.seq ?_
  refine GC.seq ?_
  refine GC.reg ?_
  refine GL.val (rv_loadAL ag_31 rfl (by exact Hd.cellsAll (k := 1) rfl) (by exact sz_31) (by (exact qc_len hd))) rfl ?_
  refine GL.step (ot_call hb_61 rfl (callOk fun w hh => pcheck_c kd qn qk qA qc dg w hd hqs) rfl fun _ _ => ?_)
  refine GL.val (rv_assign rfl) rfl ?_
  refine GL.nil ?_
  refine GX.then ?_
  refine GC.seq ?_
  refine GC.reg ?_
  refine GL.val (rv_move rfl) rfl ?_
  refine GL.val (rv_neI rfl rfl) rfl ?_
  refine GL.nil ?_
  refine GX.then ?_
  refine GC.condP rfl (fun c14 => ?_) (fun c14 => ?_)
  · have h14 : pchk kd qn qk ≠ 0 := by simpa using c14
    have hN : nxt hv cn ck cs kd qn qk dg = pchk kd qn qk := by unfold nxt; rw [if_pos h14]
    refine GC.seq ?_
    refine GC.reg ?_
    refine GL.val (rv_buildS pl_49 zb_49 rfl rfl (by ((simp only [bldL, repl, List.set_cons_zero, List.set_cons_succ, List.getElem?_cons_zero, List.getElem?_cons_succ, Option.getD_some, Value.cells]) <;> rfl))) rfl ?_
    refine GL.val (rv_move rfl) rfl ?_
    refine GL.step (ot_store (k := 0) rfl rfl rfl rfl sz_49 rfl rfl (by ((simp only [repl, List.set_cons_zero, List.set_cons_succ]) <;> rfl)) ?_)
    refine GL.val (rv_assign rfl) rfl ?_
    refine GL.nil ?_
    refine GX.then ?_
    refine GC.ret ?_
    refine GX.then_ret ?_
    refine GX.ret2 rfl (RR.cellL ag_49 rfl (by exact Hd.cellsAll (k := 0) rfl) (by exact sz_49) (by ((simp [ws8_len, hd]; done)))) (RR.tmp rfl) ?_
    exact fun w9 h => ⟨(none, 0), (by rw [hN, rn_no h14, rk_no h14, rs_no h14]; rfl), by
        have h := h.sel [] rfl rfl
        have h := (h.nilRow 5 1).rowRo (k := 0) rfl
        rw [hN, rk_no h14]
        exact h, (by rw [hN, rk_no h14]; exact Nat.le_refl 0)⟩
  · have h14 : ¬ pchk kd qn qk ≠ 0 := by simpa using c14
    have hsz : qn.size ≤ 32 := by
      have h0 : pchk kd qn qk = 0 := by simpa using c14
      unfold pchk at h0
      split at h0
      · cases h0
      · exact (chk_inv h0).1
    refine GC.skip ?_
    refine GX.then ?_
    refine GC.seq ?_
    refine GC.draw 7 [0, 1, 2] mo_ ?_
    refine GD.pure1 (i := 0) rfl (fun _ _ => rv_field fo_31_1 rfl rfl) ?_
    refine GD.pure1 (i := 2) rfl (fun _ _ => rv_field fo_31_2 rfl rfl) ?_
    refine GD.read1 (i := 1) rfl (rv_load ag_9 rfl (by exact Hd.cell (k := 1) rfl rfl)) ?_
    refine GD.read1 (i := 3) rfl (rv_load ag_27 rfl (by exact Hd.cell (k := 1) rfl rfl)) ?_
    refine GD.eachN2 (i := 4) (j := 6) (by kernel_rfl) rfl rfl ?_ ?_
    · refine ot_call hb_51 rfl (callOk fun w hh => clone_b qA _ qc qk w (hh.rd0n hqk) rfl (by omega)) rfl fun g21 h21 => ⟨.inr fun _ h => h.pk [1, 2, 3], ?_⟩
      refine GD.pure1 (i := 5) rfl (fun _ _ => rv_buildS pl_49 zb_49 rfl rfl (by ((simp only [bldL, repl, List.set_cons_zero, List.set_cons_succ, List.getElem?_cons_zero, List.getElem?_cons_succ, Option.getD_some, Value.cells]) <;> rfl))) ?_
      refine GD.step (i := 6) (by kernel_rfl) rfl (ot_alloc (zs := [.string ByteArray.empty, .slice none 0 0, .int .u64 0]) zb_49 rfl rfl fun b9 => ⟨.inr fun _ h => h.pk [2, 3, 4], ?_⟩)
      refine GD.step (i := 7) (by kernel_rfl) rfl (ot_store (k := 0) rfl rfl rfl rfl sz_49 rfl rfl (by ((simp only [repl, List.set_cons_zero, List.set_cons_succ]) <;> rfl)) ⟨.inl rfl, ?_⟩)
      refine GD.done (by kernel_rfl) ?_
      refine GX.then ?_
      refine GC.seq ?_
      refine GC.seq ?_
      refine GC.reg ?_
      refine GL.val (rv_field fo_31_0 rfl rfl) rfl ?_
      refine GL.val (rv_load ag_3 rfl (by exact Hd.cell (k := 3) rfl rfl)) rfl ?_
      refine GL.val (rv_eqI rfl rfl) rfl ?_
      refine GL.val (rv_assign rfl) rfl ?_
      refine GL.nil ?_
      refine GX.then ?_
      refine GC.block ?_
      refine GC.seq ?_
      refine GC.reg ?_
      refine GL.val (rv_move rfl) rfl ?_
      refine GL.val (rv_move rfl) rfl ?_
      refine GL.valG rfl (fun hb => rv_field fo_49_0 (by rfl) (by rfl)) rfl ?_
      refine GL.valG rfl (fun hb => rv_load ag_9 (by exact evb rfl hb) (by exact Hd.cell (k := 4) (by first | exact evb rfl hb | rfl) (by first | exact evb rfl hb | rfl))) rfl ?_
      refine GL.valG rfl (fun hb => rv_field fo_31_1 (by rfl) (by rfl)) rfl ?_
      refine GL.valG rfl (fun hb => rv_load ag_9 (by exact evb rfl hb) (by exact Hd.cell (k := 3) (by first | exact evb rfl hb | rfl) (by first | exact evb rfl hb | rfl))) rfl ?_
      refine GL.valG rfl (fun hb => rv_neS (by exact evb rfl hb) (by exact evb rfl hb)) rfl ?_
      refine GL.val ((by exact rv_pickAnd rfl rfl rfl)) rfl ?_
      refine GL.val (rv_assign rfl) rfl ?_
      refine GL.nil ?_
      refine GX.then ?_
      refine GC.cond rfl (fun c26 => ?_) (fun c26 => ?_)
      · have h26 : hv = true ∧ cn ≠ qn := by simpa using c26
        have hN : nxt hv cn ck cs kd qn qk dg = 1 := by unfold nxt; rw [if_neg h14, if_pos h26]
        refine GC.seq ?_
        refine GC.reg ?_
        refine GL.val (rv_buildS pl_49 zb_49 rfl rfl (by ((simp only [bldL, repl, List.set_cons_zero, List.set_cons_succ, List.getElem?_cons_zero, List.getElem?_cons_succ, Option.getD_some, Value.cells]) <;> rfl))) rfl ?_
        refine GL.step (ot_store (k := 2) rfl rfl rfl rfl sz_49 rfl rfl (by ((simp only [repl, List.set_cons_zero, List.set_cons_succ]) <;> rfl)) ?_)
        refine GL.val (rv_assign rfl) rfl ?_
        refine GL.nil ?_
        refine GX.then ?_
        refine GC.ret ?_
        refine GX.blk_ret ?_
        refine GX.then_ret ?_
        refine GX.ret2 rfl (RR.cellL ag_49 rfl (by exact Hd.cellsAll (k := 2) rfl) (by exact sz_49) (by ((simp [ws8_len, hd]; done)))) (RR.tmp rfl) ?_
        exact fun w9 h => ⟨(none, 0), (by rw [hN, rn_no (by decide), rk_no (by decide), rs_no (by decide)]; rfl), by
            have h := h.sel [] rfl rfl
            have h := (h.nilRow 5 1).rowRo (k := 0) rfl
            rw [hN, rk_no (by decide)]
            exact h, (by rw [hN, rk_no (by decide)]; exact Nat.le_refl 0)⟩
      · have h26 : ¬ (hv = true ∧ cn ≠ qn) := by simpa using c26
        refine GC.seq ?_
        refine GC.reg ?_
        refine GL.val (rv_move rfl) rfl ?_
        refine GL.val (rv_move rfl) rfl ?_
        refine GL.valG rfl (fun hb => rv_move (by rfl)) rfl ?_
        refine GL.val ((by exact rv_pickAnd rfl rfl rfl)) rfl ?_
        refine GL.val (rv_assign rfl) rfl ?_
        refine GL.nil ?_
        refine GX.then ?_
        refine GC.cond rfl (fun c36 => ?_) (fun c36 => ?_)
        · have h36 : kd = 1 ∧ hv = true := by simpa using c36
          have hN : nxt hv cn ck cs kd qn qk dg = 6 := by unfold nxt; rw [if_neg h14, if_neg h26, if_pos h36.1, if_pos h36.2]
          refine GC.seq ?_
          refine GC.reg ?_
          refine GL.val (rv_buildS pl_49 zb_49 rfl rfl (by ((simp only [bldL, repl, List.set_cons_zero, List.set_cons_succ, List.getElem?_cons_zero, List.getElem?_cons_succ, Option.getD_some, Value.cells]) <;> rfl))) rfl ?_
          refine GL.step (ot_store (k := 2) rfl rfl rfl rfl sz_49 rfl rfl (by ((simp only [repl, List.set_cons_zero, List.set_cons_succ]) <;> rfl)) ?_)
          refine GL.val (rv_assign rfl) rfl ?_
          refine GL.nil ?_
          refine GX.then ?_
          refine GC.ret ?_
          refine GX.blk_ret ?_
          refine GX.then_ret ?_
          refine GX.ret2 rfl (RR.cellL ag_49 rfl (by exact Hd.cellsAll (k := 2) rfl) (by exact sz_49) (by ((simp [ws8_len, hd]; done)))) (RR.tmp rfl) ?_
          exact fun w9 h => ⟨(none, 0), (by rw [hN, rn_no (by decide), rk_no (by decide), rs_no (by decide)]; rfl), by
              have h := h.sel [] rfl rfl
              have h := (h.nilRow 5 1).rowRo (k := 0) rfl
              rw [hN, rk_no (by decide)]
              exact h, (by rw [hN, rk_no (by decide)]; exact Nat.le_refl 0)⟩
        · have h36 : ¬ (kd = 1 ∧ hv = true) := by simpa using c36
          refine GC.seq ?_
          refine GC.reg ?_
          refine GL.val (rv_move rfl) rfl ?_
          refine GL.val (rv_move rfl) rfl ?_
          refine GL.valG rfl (fun hb => rv_field fo_31_3 (by rfl) (by rfl)) rfl ?_
          refine GL.valG rfl (fun hb => rv_loadAL ag_29 (by exact evb rfl hb) (Hd.cells (k := 3) (by rfl) qc_d) (by exact sz_29) (by ((simp [ws8_len, hd]; done)))) rfl ?_
          refine GL.valG rfl (fun hb => rv_to (v' := .agg (ws8 zdg).toArray) (rv_buildAp (cs := ws8 zdg) as_29 zb_29 (by rfl) (by rfl)) (by rfl)) rfl ?_
          refine GL.valG rfl (fun hb => rv_ne24 (by exact evb rfl hb) (by exact evb rfl hb) hd zdg_len) rfl ?_
          refine GL.val ((by exact rv_pickAnd rfl rfl rfl)) rfl ?_
          refine GL.val (rv_assign rfl) rfl ?_
          refine GL.nil ?_
          refine GX.then ?_
          refine GC.cond rfl (fun c42 => ?_) (fun c42 => ?_)
          · have h42 : kd = 1 ∧ dg ≠ zdg := by simpa using c42
            have hvf : ¬ hv = true := fun h => h36 ⟨h42.1, h⟩
            have hN : nxt hv cn ck cs kd qn qk dg = 8 := by unfold nxt; rw [if_neg h14, if_neg h26, if_pos h42.1, if_neg hvf, if_pos h42.2]
            refine GC.seq ?_
            refine GC.reg ?_
            refine GL.val (rv_buildS pl_49 zb_49 rfl rfl (by ((simp only [bldL, repl, List.set_cons_zero, List.set_cons_succ, List.getElem?_cons_zero, List.getElem?_cons_succ, Option.getD_some, Value.cells]) <;> rfl))) rfl ?_
            refine GL.step (ot_store (k := 2) rfl rfl rfl rfl sz_49 rfl rfl (by ((simp only [repl, List.set_cons_zero, List.set_cons_succ]) <;> rfl)) ?_)
            refine GL.val (rv_assign rfl) rfl ?_
            refine GL.nil ?_
            refine GX.then ?_
            refine GC.ret ?_
            refine GX.blk_ret ?_
            refine GX.then_ret ?_
            refine GX.ret2 rfl (RR.cellL ag_49 rfl (by exact Hd.cellsAll (k := 2) rfl) (by exact sz_49) (by ((simp [ws8_len, hd]; done)))) (RR.tmp rfl) ?_
            exact fun w9 h => ⟨(none, 0), (by rw [hN, rn_no (by decide), rk_no (by decide), rs_no (by decide)]; rfl), by
                have h := h.sel [] rfl rfl
                have h := (h.nilRow 5 1).rowRo (k := 0) rfl
                rw [hN, rk_no (by decide)]
                exact h, (by rw [hN, rk_no (by decide)]; exact Nat.le_refl 0)⟩
          · have h42 : ¬ (kd = 1 ∧ dg ≠ zdg) := by simpa using c42
            refine GC.seq ?_
            refine GC.reg ?_
            refine GL.val (rv_move rfl) rfl ?_
            refine GL.val (rv_assign rfl) rfl ?_
            refine GL.nil ?_
            refine GX.then ?_
            refine GC.condP rfl (fun c51 => ?_) (fun c51 => ?_)
            · have h51 : kd = 1 := by simpa using c51
              have hvf : ¬ hv = true := fun h => h36 ⟨h51, h⟩
              have hdz : ¬ dg ≠ zdg := fun h => h42 ⟨h51, h⟩
              have hN : nxt hv cn ck cs kd qn qk dg = 0 := by unfold nxt; rw [if_neg h14, if_neg h26, if_pos h51, if_neg hvf, if_neg hdz]
              refine GC.seq ?_
              refine GC.reg ?_
              refine GL.val (rv_loadAL ag_49 rfl (by exact Hd.cellsAll (k := 0) rfl) (by exact sz_49) (by ((simp [ws8_len, hd]; done)))) rfl ?_
              refine GL.step (ot_store (k := 2) rfl rfl rfl rfl sz_49 rfl rfl (by ((simp only [repl, List.set_cons_zero, List.set_cons_succ]) <;> rfl)) ?_)
              refine GL.val (rv_assign rfl) rfl ?_
              refine GL.nil ?_
              refine GX.then ?_
              refine GC.ret ?_
              refine GX.blk_ret ?_
              refine GX.then_ret ?_
              refine GX.ret2 rfl (RR.cellL ag_49 rfl (by exact Hd.cellsAll (k := 2) rfl) (by exact sz_49) (by ((simp [ws8_len, hd]; done)))) (RR.tmp rfl) ?_
              exact fun w9 h => ⟨g21, (by rw [hN, rn_0, rk_0, rs_0, show nser kd cs = 1 from if_pos h51]; rfl), by
                  have h := h.sel [1] rfl rfl
                  rw [hN, rk_0]
                  exact h, (by rw [hN, rk_0]; exact h21)⟩
            · have h51 : ¬ kd = 1 := by simpa using c51
              refine GC.seq ?_
              refine GC.reg ?_
              refine GL.val (rv_move rfl) rfl ?_
              refine GL.val (rv_not rfl) rfl ?_
              refine GL.val (rv_assign rfl) rfl ?_
              refine GL.nil ?_
              refine GX.then ?_
              refine GC.cond rfl (fun c54 => ?_) (fun c54 => ?_)
              · have h54 : hv = false := by simpa using c54
                have hN : nxt hv cn ck cs kd qn qk dg = 7 := by unfold nxt; rw [if_neg h14, if_neg h26, if_neg h51, if_pos h54]
                refine GC.seq ?_
                refine GC.reg ?_
                refine GL.val (rv_buildS pl_49 zb_49 rfl rfl (by ((simp only [bldL, repl, List.set_cons_zero, List.set_cons_succ, List.getElem?_cons_zero, List.getElem?_cons_succ, Option.getD_some, Value.cells]) <;> rfl))) rfl ?_
                refine GL.step (ot_store (k := 2) rfl rfl rfl rfl sz_49 rfl rfl (by ((simp only [repl, List.set_cons_zero, List.set_cons_succ]) <;> rfl)) ?_)
                refine GL.val (rv_assign rfl) rfl ?_
                refine GL.nil ?_
                refine GX.then ?_
                refine GC.ret ?_
                refine GX.blk_ret ?_
                refine GX.then_ret ?_
                refine GX.ret2 rfl (RR.cellL ag_49 rfl (by exact Hd.cellsAll (k := 2) rfl) (by exact sz_49) (by ((simp [ws8_len, hd]; done)))) (RR.tmp rfl) ?_
                exact fun w9 h => ⟨(none, 0), (by rw [hN, rn_no (by decide), rk_no (by decide), rs_no (by decide)]; rfl), by
                    have h := h.sel [] rfl rfl
                    have h := (h.nilRow 5 1).rowRo (k := 0) rfl
                    rw [hN, rk_no (by decide)]
                    exact h, (by rw [hN, rk_no (by decide)]; exact Nat.le_refl 0)⟩
              · have h54 : hv = true := by simpa using c54
                have hcn : cn = qn := Decidable.byContradiction fun h => h26 ⟨h54, h⟩
                subst hcn
                have h54b : ¬ hv = false := by rw [h54]; decide
                refine GC.seq ?_
                refine GC.reg ?_
                refine GL.val (rv_field fo_49_2 rfl rfl) rfl ?_
                refine GL.val (rv_load ag_24 rfl (by exact Hd.cell (k := 4) rfl rfl)) rfl ?_
                refine GL.val (rv_eq64 (b := 18446744073709551615) rfl rfl) rfl ?_
                refine GL.val (rv_assign rfl) rfl ?_
                refine GL.nil ?_
                refine GX.then ?_
                refine GC.condP rfl (fun c58 => ?_) (fun c58 => ?_)
                · have h58 : cs = 18446744073709551615 := by simpa using c58
                  have hN : nxt hv cn ck cs kd cn qk dg = 12 := by unfold nxt; rw [if_neg h14, if_neg h26, if_neg h51, if_neg h54b, if_pos h58]
                  refine GC.seq ?_
                  refine GC.reg ?_
                  refine GL.val (rv_buildS pl_49 zb_49 rfl rfl (by ((simp only [bldL, repl, List.set_cons_zero, List.set_cons_succ, List.getElem?_cons_zero, List.getElem?_cons_succ, Option.getD_some, Value.cells]) <;> rfl))) rfl ?_
                  refine GL.step (ot_store (k := 2) rfl rfl rfl rfl sz_49 rfl rfl (by ((simp only [repl, List.set_cons_zero, List.set_cons_succ]) <;> rfl)) ?_)
                  refine GL.val (rv_assign rfl) rfl ?_
                  refine GL.nil ?_
                  refine GX.then ?_
                  refine GC.ret ?_
                  refine GX.blk_ret ?_
                  refine GX.then_ret ?_
                  refine GX.ret2 rfl (RR.cellL ag_49 rfl (by exact Hd.cellsAll (k := 2) rfl) (by exact sz_49) (by ((simp [ws8_len, hd]; done)))) (RR.tmp rfl) ?_
                  exact fun w9 h => ⟨(none, 0), (by rw [hN, rn_no (by decide), rk_no (by decide), rs_no (by decide)]; rfl), by
                      have h := h.sel [] rfl rfl
                      have h := (h.nilRow 5 1).rowRo (k := 0) rfl
                      rw [hN, rk_no (by decide)]
                      exact h, (by rw [hN, rk_no (by decide)]; exact Nat.le_refl 0)⟩
                · have h58 : ¬ cs = 18446744073709551615 := by simpa using c58
                  refine GC.skip ?_
                  refine GX.blk ?_
                  refine GX.then ?_
                  refine GC.seq ?_
                  refine GC.seq ?_
                  refine GC.reg ?_
                  refine GL.val (rv_field fo_49_2 rfl rfl) rfl ?_
                  refine GL.val (rv_load ag_24 rfl (by exact Hd.cell (k := 4) rfl rfl)) rfl ?_
                  refine GL.val (rv_add64 (b := 1) rfl rfl) rfl ?_
                  refine GL.val (rv_field fo_49_2 rfl rfl) rfl ?_
                  refine GL.step (ot_store (k := 0) rfl rfl rfl rfl sz_24 rfl rfl (by ((simp only [repl, List.set_cons_zero, List.set_cons_succ]) <;> rfl)) ?_)
                  refine GL.nil ?_
                  refine GX.then ?_
                  refine GC.seq ?_
                  refine GC.draw 12 [0, 1, 2, 3, 4] mo_ ?_
                  refine GD.pure1 (i := 0) rfl (fun _ _ => rv_field fo_31_3 rfl rfl) ?_
                  refine GD.pure1 (i := 2) rfl (fun _ _ => rv_field fo_49_1 rfl rfl) ?_
                  refine GD.pure1 (i := 4) rfl (fun _ _ => rv_field fo_49_0 rfl rfl) ?_
                  refine GD.pure1 (i := 6) rfl (fun _ _ => rv_field fo_49_2 rfl rfl) ?_
                  refine GD.pure1 (i := 8) rfl (fun _ _ => rv_field fo_31_2 rfl rfl) ?_
                  refine GD.read1 (i := 1) rfl (rv_loadAL ag_29 rfl (Hd.cells (k := 3) rfl qc_d) (by exact sz_29) (by ((simp [ws8_len, hd]; done)))) ?_
                  refine GD.read1 (i := 3) rfl (rv_load ag_27 rfl (by exact Hd.cell (k := 4) rfl rfl)) ?_
                  refine GD.read1 (i := 5) rfl (rv_load ag_9 rfl (by exact Hd.cell (k := 4) rfl rfl)) ?_
                  refine GD.read1 (i := 7) rfl (rv_load ag_24 rfl (by exact Hd.cell (k := 0) rfl rfl)) ?_
                  refine GD.step (i := 9) (by kernel_rfl) rfl (ot_val (rv_load ag_27 rfl (by exact Hd.cell (k := 3) rfl rfl)) rfl ⟨.inr fun _ h => h.pk [0, 1, 2, 3, 4], ?_⟩)
                  refine GD.step (i := 10) (by kernel_rfl) rfl (ot_call hb_62 rfl (callOk fun w hh => auth_b cA _ cc ck cn (cs + 1) qA _ qc qk w (hh.rd0n hck) rfl hcc (hh.rd0n hqk) rfl hqc (by omega) (by omega) (by omega)) rfl fun _ _ => ⟨.inr fun _ h => h.pk [0, 1, 2, 3, 4], ?_⟩)
                  have hal := auth_len ck cn (cs + 1) qk
                  generalize hau : auth ck cn (cs + 1) qk = au at hal ⊢
                  refine GD.pure1 (i := 11) rfl (fun _ _ => rv_ne24 rfl rfl hd hal) ?_
                  refine GD.done (by kernel_rfl) ?_
                  refine GX.then ?_
                  refine GC.cond rfl (fun c78 => ?_) (fun c78 => ?_)
                  · have h78 : dg ≠ au := by simpa using c78
                    have hN : nxt hv cn ck cs kd cn qk dg = 8 := by unfold nxt; rw [if_neg h14, if_neg h26, if_neg h51, if_neg h54b, if_neg h58, if_pos (hau ▸ h78)]
                    refine GC.seq ?_
                    refine GC.reg ?_
                    refine GL.val (rv_buildS pl_49 zb_49 rfl rfl (by ((simp only [bldL, repl, List.set_cons_zero, List.set_cons_succ, List.getElem?_cons_zero, List.getElem?_cons_succ, Option.getD_some, Value.cells]) <;> rfl))) rfl ?_
                    refine GL.step (ot_store (k := 2) rfl rfl rfl rfl sz_49 rfl rfl (by ((simp only [repl, List.set_cons_zero, List.set_cons_succ]) <;> rfl)) ?_)
                    refine GL.val (rv_assign rfl) rfl ?_
                    refine GL.nil ?_
                    refine GX.then ?_
                    refine GC.ret ?_
                    refine GX.then_ret ?_
                    refine GX.ret2 rfl (RR.cellL ag_49 rfl (by exact Hd.cellsAll (k := 2) rfl) (by exact sz_49) (by ((simp [ws8_len, hd]; done)))) (RR.tmp rfl) ?_
                    exact fun w9 h => ⟨(none, 0), (by rw [hN, rn_no (by decide), rk_no (by decide), rs_no (by decide)]; rfl), by
                        have h := h.sel [] rfl rfl
                        have h := (h.nilRow 5 1).rowRo (k := 0) rfl
                        rw [hN, rk_no (by decide)]
                        exact h, (by rw [hN, rk_no (by decide)]; exact Nat.le_refl 0)⟩
                  · have h78 : ¬ dg ≠ au := by simpa using c78
                    have hN : nxt hv cn ck cs kd cn qk dg = 0 := by unfold nxt; rw [if_neg h14, if_neg h26, if_neg h51, if_neg h54b, if_neg h58, if_neg (hau ▸ h78)]
                    refine GC.skip ?_
                    refine GX.then ?_
                    refine GC.seq ?_
                    refine GC.reg ?_
                    refine GL.val (rv_loadAL ag_49 rfl (by exact Hd.cellsAll (k := 0) rfl) (by exact sz_49) (by ((simp [ws8_len, hd]; done)))) rfl ?_
                    refine GL.step (ot_store (k := 2) rfl rfl rfl rfl sz_49 rfl rfl (by ((simp only [repl, List.set_cons_zero, List.set_cons_succ]) <;> rfl)) ?_)
                    refine GL.val (rv_assign rfl) rfl ?_
                    refine GL.nil ?_
                    refine GX.then ?_
                    refine GC.ret ?_
                    refine GX.ret2 rfl (RR.cellL ag_49 rfl (by exact Hd.cellsAll (k := 2) rfl) (by exact sz_49) (by ((simp [ws8_len, hd]; done)))) (RR.tmp rfl) ?_
                    exact fun w9 h => ⟨g21, (by rw [hN, rn_0, rk_0, rs_0, show nser kd cs = cs + 1 from if_neg h51]; rfl), by
                        have h := h.sel [1] rfl rfl
                        rw [hN, rk_0]
                        exact h, (by rw [hN, rk_0]; exact h21)⟩
    · refine ot_alloc (zs := [.string ByteArray.empty, .slice none 0 0, .int .u64 0]) zb_49 rfl rfl fun b9 => ⟨.inr fun _ h => h.pk [1, 2, 3], ?_⟩
      refine GD.step (i := 4) (by kernel_rfl) rfl (ot_call hb_51 rfl (callOk fun w hh => clone_b qA _ qc qk w (hh.rd0n hqk) rfl (by omega)) rfl fun g21 h21 => ⟨.inr fun _ h => h.pk [2, 3, 4], ?_⟩)
      refine GD.pure1 (i := 5) rfl (fun _ _ => rv_buildS pl_49 zb_49 rfl rfl (by ((simp only [bldL, repl, List.set_cons_zero, List.set_cons_succ, List.getElem?_cons_zero, List.getElem?_cons_succ, Option.getD_some, Value.cells]) <;> rfl))) ?_
      refine GD.step (i := 7) (by kernel_rfl) rfl (ot_store (k := 1) rfl rfl rfl rfl sz_49 rfl rfl (by ((simp only [repl, List.set_cons_zero, List.set_cons_succ]) <;> rfl)) ⟨.inl rfl, ?_⟩)
      refine GD.done (by kernel_rfl) ?_
      refine GX.then ?_
      refine GC.seq ?_
      refine GC.seq ?_
      refine GC.reg ?_
      refine GL.val (rv_field fo_31_0 rfl rfl) rfl ?_
      refine GL.val (rv_load ag_3 rfl (by exact Hd.cell (k := 3) rfl rfl)) rfl ?_
      refine GL.val (rv_eqI rfl rfl) rfl ?_
      refine GL.val (rv_assign rfl) rfl ?_
      refine GL.nil ?_
      refine GX.then ?_
      refine GC.block ?_
      refine GC.seq ?_
      refine GC.reg ?_
      refine GL.val (rv_move rfl) rfl ?_
      refine GL.val (rv_move rfl) rfl ?_
      refine GL.valG rfl (fun hb => rv_field fo_49_0 (by rfl) (by rfl)) rfl ?_
      refine GL.valG rfl (fun hb => rv_load ag_9 (by exact evb rfl hb) (by exact Hd.cell (k := 4) (by first | exact evb rfl hb | rfl) (by first | exact evb rfl hb | rfl))) rfl ?_
      refine GL.valG rfl (fun hb => rv_field fo_31_1 (by rfl) (by rfl)) rfl ?_
      refine GL.valG rfl (fun hb => rv_load ag_9 (by exact evb rfl hb) (by exact Hd.cell (k := 3) (by first | exact evb rfl hb | rfl) (by first | exact evb rfl hb | rfl))) rfl ?_
      refine GL.valG rfl (fun hb => rv_neS (by exact evb rfl hb) (by exact evb rfl hb)) rfl ?_
      refine GL.val ((by exact rv_pickAnd rfl rfl rfl)) rfl ?_
      refine GL.val (rv_assign rfl) rfl ?_
      refine GL.nil ?_
      refine GX.then ?_
      refine GC.cond rfl (fun c26 => ?_) (fun c26 => ?_)
      · have h26 : hv = true ∧ cn ≠ qn := by simpa using c26
        have hN : nxt hv cn ck cs kd qn qk dg = 1 := by unfold nxt; rw [if_neg h14, if_pos h26]
        refine GC.seq ?_
        refine GC.reg ?_
        refine GL.val (rv_buildS pl_49 zb_49 rfl rfl (by ((simp only [bldL, repl, List.set_cons_zero, List.set_cons_succ, List.getElem?_cons_zero, List.getElem?_cons_succ, Option.getD_some, Value.cells]) <;> rfl))) rfl ?_
        refine GL.step (ot_store (k := 2) rfl rfl rfl rfl sz_49 rfl rfl (by ((simp only [repl, List.set_cons_zero, List.set_cons_succ]) <;> rfl)) ?_)
        refine GL.val (rv_assign rfl) rfl ?_
        refine GL.nil ?_
        refine GX.then ?_
        refine GC.ret ?_
        refine GX.blk_ret ?_
        refine GX.then_ret ?_
        refine GX.ret2 rfl (RR.cellL ag_49 rfl (by exact Hd.cellsAll (k := 2) rfl) (by exact sz_49) (by ((simp [ws8_len, hd]; done)))) (RR.tmp rfl) ?_
        exact fun w9 h => ⟨(none, 0), (by rw [hN, rn_no (by decide), rk_no (by decide), rs_no (by decide)]; rfl), by
            have h := h.sel [] rfl rfl
            have h := (h.nilRow 5 1).rowRo (k := 0) rfl
            rw [hN, rk_no (by decide)]
            exact h, (by rw [hN, rk_no (by decide)]; exact Nat.le_refl 0)⟩
      · have h26 : ¬ (hv = true ∧ cn ≠ qn) := by simpa using c26
        refine GC.seq ?_
        refine GC.reg ?_
        refine GL.val (rv_move rfl) rfl ?_
        refine GL.val (rv_move rfl) rfl ?_
        refine GL.valG rfl (fun hb => rv_move (by rfl)) rfl ?_
        refine GL.val ((by exact rv_pickAnd rfl rfl rfl)) rfl ?_
        refine GL.val (rv_assign rfl) rfl ?_
        refine GL.nil ?_
        refine GX.then ?_
        refine GC.cond rfl (fun c36 => ?_) (fun c36 => ?_)
        · have h36 : kd = 1 ∧ hv = true := by simpa using c36
          have hN : nxt hv cn ck cs kd qn qk dg = 6 := by unfold nxt; rw [if_neg h14, if_neg h26, if_pos h36.1, if_pos h36.2]
          refine GC.seq ?_
          refine GC.reg ?_
          refine GL.val (rv_buildS pl_49 zb_49 rfl rfl (by ((simp only [bldL, repl, List.set_cons_zero, List.set_cons_succ, List.getElem?_cons_zero, List.getElem?_cons_succ, Option.getD_some, Value.cells]) <;> rfl))) rfl ?_
          refine GL.step (ot_store (k := 2) rfl rfl rfl rfl sz_49 rfl rfl (by ((simp only [repl, List.set_cons_zero, List.set_cons_succ]) <;> rfl)) ?_)
          refine GL.val (rv_assign rfl) rfl ?_
          refine GL.nil ?_
          refine GX.then ?_
          refine GC.ret ?_
          refine GX.blk_ret ?_
          refine GX.then_ret ?_
          refine GX.ret2 rfl (RR.cellL ag_49 rfl (by exact Hd.cellsAll (k := 2) rfl) (by exact sz_49) (by ((simp [ws8_len, hd]; done)))) (RR.tmp rfl) ?_
          exact fun w9 h => ⟨(none, 0), (by rw [hN, rn_no (by decide), rk_no (by decide), rs_no (by decide)]; rfl), by
              have h := h.sel [] rfl rfl
              have h := (h.nilRow 5 1).rowRo (k := 0) rfl
              rw [hN, rk_no (by decide)]
              exact h, (by rw [hN, rk_no (by decide)]; exact Nat.le_refl 0)⟩
        · have h36 : ¬ (kd = 1 ∧ hv = true) := by simpa using c36
          refine GC.seq ?_
          refine GC.reg ?_
          refine GL.val (rv_move rfl) rfl ?_
          refine GL.val (rv_move rfl) rfl ?_
          refine GL.valG rfl (fun hb => rv_field fo_31_3 (by rfl) (by rfl)) rfl ?_
          refine GL.valG rfl (fun hb => rv_loadAL ag_29 (by exact evb rfl hb) (Hd.cells (k := 3) (by rfl) qc_d) (by exact sz_29) (by ((simp [ws8_len, hd]; done)))) rfl ?_
          refine GL.valG rfl (fun hb => rv_to (v' := .agg (ws8 zdg).toArray) (rv_buildAp (cs := ws8 zdg) as_29 zb_29 (by rfl) (by rfl)) (by rfl)) rfl ?_
          refine GL.valG rfl (fun hb => rv_ne24 (by exact evb rfl hb) (by exact evb rfl hb) hd zdg_len) rfl ?_
          refine GL.val ((by exact rv_pickAnd rfl rfl rfl)) rfl ?_
          refine GL.val (rv_assign rfl) rfl ?_
          refine GL.nil ?_
          refine GX.then ?_
          refine GC.cond rfl (fun c42 => ?_) (fun c42 => ?_)
          · have h42 : kd = 1 ∧ dg ≠ zdg := by simpa using c42
            have hvf : ¬ hv = true := fun h => h36 ⟨h42.1, h⟩
            have hN : nxt hv cn ck cs kd qn qk dg = 8 := by unfold nxt; rw [if_neg h14, if_neg h26, if_pos h42.1, if_neg hvf, if_pos h42.2]
            refine GC.seq ?_
            refine GC.reg ?_
            refine GL.val (rv_buildS pl_49 zb_49 rfl rfl (by ((simp only [bldL, repl, List.set_cons_zero, List.set_cons_succ, List.getElem?_cons_zero, List.getElem?_cons_succ, Option.getD_some, Value.cells]) <;> rfl))) rfl ?_
            refine GL.step (ot_store (k := 2) rfl rfl rfl rfl sz_49 rfl rfl (by ((simp only [repl, List.set_cons_zero, List.set_cons_succ]) <;> rfl)) ?_)
            refine GL.val (rv_assign rfl) rfl ?_
            refine GL.nil ?_
            refine GX.then ?_
            refine GC.ret ?_
            refine GX.blk_ret ?_
            refine GX.then_ret ?_
            refine GX.ret2 rfl (RR.cellL ag_49 rfl (by exact Hd.cellsAll (k := 2) rfl) (by exact sz_49) (by ((simp [ws8_len, hd]; done)))) (RR.tmp rfl) ?_
            exact fun w9 h => ⟨(none, 0), (by rw [hN, rn_no (by decide), rk_no (by decide), rs_no (by decide)]; rfl), by
                have h := h.sel [] rfl rfl
                have h := (h.nilRow 5 1).rowRo (k := 0) rfl
                rw [hN, rk_no (by decide)]
                exact h, (by rw [hN, rk_no (by decide)]; exact Nat.le_refl 0)⟩
          · have h42 : ¬ (kd = 1 ∧ dg ≠ zdg) := by simpa using c42
            refine GC.seq ?_
            refine GC.reg ?_
            refine GL.val (rv_move rfl) rfl ?_
            refine GL.val (rv_assign rfl) rfl ?_
            refine GL.nil ?_
            refine GX.then ?_
            refine GC.condP rfl (fun c51 => ?_) (fun c51 => ?_)
            · have h51 : kd = 1 := by simpa using c51
              have hvf : ¬ hv = true := fun h => h36 ⟨h51, h⟩
              have hdz : ¬ dg ≠ zdg := fun h => h42 ⟨h51, h⟩
              have hN : nxt hv cn ck cs kd qn qk dg = 0 := by unfold nxt; rw [if_neg h14, if_neg h26, if_pos h51, if_neg hvf, if_neg hdz]
              refine GC.seq ?_
              refine GC.reg ?_
              refine GL.val (rv_loadAL ag_49 rfl (by exact Hd.cellsAll (k := 1) rfl) (by exact sz_49) (by ((simp [ws8_len, hd]; done)))) rfl ?_
              refine GL.step (ot_store (k := 2) rfl rfl rfl rfl sz_49 rfl rfl (by ((simp only [repl, List.set_cons_zero, List.set_cons_succ]) <;> rfl)) ?_)
              refine GL.val (rv_assign rfl) rfl ?_
              refine GL.nil ?_
              refine GX.then ?_
              refine GC.ret ?_
              refine GX.blk_ret ?_
              refine GX.then_ret ?_
              refine GX.ret2 rfl (RR.cellL ag_49 rfl (by exact Hd.cellsAll (k := 2) rfl) (by exact sz_49) (by ((simp [ws8_len, hd]; done)))) (RR.tmp rfl) ?_
              exact fun w9 h => ⟨g21, (by rw [hN, rn_0, rk_0, rs_0, show nser kd cs = 1 from if_pos h51]; rfl), by
                  have h := h.sel [0] rfl rfl
                  rw [hN, rk_0]
                  exact h, (by rw [hN, rk_0]; exact h21)⟩
            · have h51 : ¬ kd = 1 := by simpa using c51
              refine GC.seq ?_
              refine GC.reg ?_
              refine GL.val (rv_move rfl) rfl ?_
              refine GL.val (rv_not rfl) rfl ?_
              refine GL.val (rv_assign rfl) rfl ?_
              refine GL.nil ?_
              refine GX.then ?_
              refine GC.cond rfl (fun c54 => ?_) (fun c54 => ?_)
              · have h54 : hv = false := by simpa using c54
                have hN : nxt hv cn ck cs kd qn qk dg = 7 := by unfold nxt; rw [if_neg h14, if_neg h26, if_neg h51, if_pos h54]
                refine GC.seq ?_
                refine GC.reg ?_
                refine GL.val (rv_buildS pl_49 zb_49 rfl rfl (by ((simp only [bldL, repl, List.set_cons_zero, List.set_cons_succ, List.getElem?_cons_zero, List.getElem?_cons_succ, Option.getD_some, Value.cells]) <;> rfl))) rfl ?_
                refine GL.step (ot_store (k := 2) rfl rfl rfl rfl sz_49 rfl rfl (by ((simp only [repl, List.set_cons_zero, List.set_cons_succ]) <;> rfl)) ?_)
                refine GL.val (rv_assign rfl) rfl ?_
                refine GL.nil ?_
                refine GX.then ?_
                refine GC.ret ?_
                refine GX.blk_ret ?_
                refine GX.then_ret ?_
                refine GX.ret2 rfl (RR.cellL ag_49 rfl (by exact Hd.cellsAll (k := 2) rfl) (by exact sz_49) (by ((simp [ws8_len, hd]; done)))) (RR.tmp rfl) ?_
                exact fun w9 h => ⟨(none, 0), (by rw [hN, rn_no (by decide), rk_no (by decide), rs_no (by decide)]; rfl), by
                    have h := h.sel [] rfl rfl
                    have h := (h.nilRow 5 1).rowRo (k := 0) rfl
                    rw [hN, rk_no (by decide)]
                    exact h, (by rw [hN, rk_no (by decide)]; exact Nat.le_refl 0)⟩
              · have h54 : hv = true := by simpa using c54
                have hcn : cn = qn := Decidable.byContradiction fun h => h26 ⟨h54, h⟩
                subst hcn
                have h54b : ¬ hv = false := by rw [h54]; decide
                refine GC.seq ?_
                refine GC.reg ?_
                refine GL.val (rv_field fo_49_2 rfl rfl) rfl ?_
                refine GL.val (rv_load ag_24 rfl (by exact Hd.cell (k := 4) rfl rfl)) rfl ?_
                refine GL.val (rv_eq64 (b := 18446744073709551615) rfl rfl) rfl ?_
                refine GL.val (rv_assign rfl) rfl ?_
                refine GL.nil ?_
                refine GX.then ?_
                refine GC.condP rfl (fun c58 => ?_) (fun c58 => ?_)
                · have h58 : cs = 18446744073709551615 := by simpa using c58
                  have hN : nxt hv cn ck cs kd cn qk dg = 12 := by unfold nxt; rw [if_neg h14, if_neg h26, if_neg h51, if_neg h54b, if_pos h58]
                  refine GC.seq ?_
                  refine GC.reg ?_
                  refine GL.val (rv_buildS pl_49 zb_49 rfl rfl (by ((simp only [bldL, repl, List.set_cons_zero, List.set_cons_succ, List.getElem?_cons_zero, List.getElem?_cons_succ, Option.getD_some, Value.cells]) <;> rfl))) rfl ?_
                  refine GL.step (ot_store (k := 2) rfl rfl rfl rfl sz_49 rfl rfl (by ((simp only [repl, List.set_cons_zero, List.set_cons_succ]) <;> rfl)) ?_)
                  refine GL.val (rv_assign rfl) rfl ?_
                  refine GL.nil ?_
                  refine GX.then ?_
                  refine GC.ret ?_
                  refine GX.blk_ret ?_
                  refine GX.then_ret ?_
                  refine GX.ret2 rfl (RR.cellL ag_49 rfl (by exact Hd.cellsAll (k := 2) rfl) (by exact sz_49) (by ((simp [ws8_len, hd]; done)))) (RR.tmp rfl) ?_
                  exact fun w9 h => ⟨(none, 0), (by rw [hN, rn_no (by decide), rk_no (by decide), rs_no (by decide)]; rfl), by
                      have h := h.sel [] rfl rfl
                      have h := (h.nilRow 5 1).rowRo (k := 0) rfl
                      rw [hN, rk_no (by decide)]
                      exact h, (by rw [hN, rk_no (by decide)]; exact Nat.le_refl 0)⟩
                · have h58 : ¬ cs = 18446744073709551615 := by simpa using c58
                  refine GC.skip ?_
                  refine GX.blk ?_
                  refine GX.then ?_
                  refine GC.seq ?_
                  refine GC.seq ?_
                  refine GC.reg ?_
                  refine GL.val (rv_field fo_49_2 rfl rfl) rfl ?_
                  refine GL.val (rv_load ag_24 rfl (by exact Hd.cell (k := 4) rfl rfl)) rfl ?_
                  refine GL.val (rv_add64 (b := 1) rfl rfl) rfl ?_
                  refine GL.val (rv_field fo_49_2 rfl rfl) rfl ?_
                  refine GL.step (ot_store (k := 1) rfl rfl rfl rfl sz_24 rfl rfl (by ((simp only [repl, List.set_cons_zero, List.set_cons_succ]) <;> rfl)) ?_)
                  refine GL.nil ?_
                  refine GX.then ?_
                  refine GC.seq ?_
                  refine GC.draw 12 [0, 1, 2, 3, 4] mo_ ?_
                  refine GD.pure1 (i := 0) rfl (fun _ _ => rv_field fo_31_3 rfl rfl) ?_
                  refine GD.pure1 (i := 2) rfl (fun _ _ => rv_field fo_49_1 rfl rfl) ?_
                  refine GD.pure1 (i := 4) rfl (fun _ _ => rv_field fo_49_0 rfl rfl) ?_
                  refine GD.pure1 (i := 6) rfl (fun _ _ => rv_field fo_49_2 rfl rfl) ?_
                  refine GD.pure1 (i := 8) rfl (fun _ _ => rv_field fo_31_2 rfl rfl) ?_
                  refine GD.read1 (i := 1) rfl (rv_loadAL ag_29 rfl (Hd.cells (k := 3) rfl qc_d) (by exact sz_29) (by ((simp [ws8_len, hd]; done)))) ?_
                  refine GD.read1 (i := 3) rfl (rv_load ag_27 rfl (by exact Hd.cell (k := 4) rfl rfl)) ?_
                  refine GD.read1 (i := 5) rfl (rv_load ag_9 rfl (by exact Hd.cell (k := 4) rfl rfl)) ?_
                  refine GD.read1 (i := 7) rfl (rv_load ag_24 rfl (by exact Hd.cell (k := 1) rfl rfl)) ?_
                  refine GD.step (i := 9) (by kernel_rfl) rfl (ot_val (rv_load ag_27 rfl (by exact Hd.cell (k := 3) rfl rfl)) rfl ⟨.inr fun _ h => h.pk [0, 1, 2, 3, 4], ?_⟩)
                  refine GD.step (i := 10) (by kernel_rfl) rfl (ot_call hb_62 rfl (callOk fun w hh => auth_b cA _ cc ck cn (cs + 1) qA _ qc qk w (hh.rd0n hck) rfl hcc (hh.rd0n hqk) rfl hqc (by omega) (by omega) (by omega)) rfl fun _ _ => ⟨.inr fun _ h => h.pk [0, 1, 2, 3, 4], ?_⟩)
                  have hal := auth_len ck cn (cs + 1) qk
                  generalize hau : auth ck cn (cs + 1) qk = au at hal ⊢
                  refine GD.pure1 (i := 11) rfl (fun _ _ => rv_ne24 rfl rfl hd hal) ?_
                  refine GD.done (by kernel_rfl) ?_
                  refine GX.then ?_
                  refine GC.cond rfl (fun c78 => ?_) (fun c78 => ?_)
                  · have h78 : dg ≠ au := by simpa using c78
                    have hN : nxt hv cn ck cs kd cn qk dg = 8 := by unfold nxt; rw [if_neg h14, if_neg h26, if_neg h51, if_neg h54b, if_neg h58, if_pos (hau ▸ h78)]
                    refine GC.seq ?_
                    refine GC.reg ?_
                    refine GL.val (rv_buildS pl_49 zb_49 rfl rfl (by ((simp only [bldL, repl, List.set_cons_zero, List.set_cons_succ, List.getElem?_cons_zero, List.getElem?_cons_succ, Option.getD_some, Value.cells]) <;> rfl))) rfl ?_
                    refine GL.step (ot_store (k := 2) rfl rfl rfl rfl sz_49 rfl rfl (by ((simp only [repl, List.set_cons_zero, List.set_cons_succ]) <;> rfl)) ?_)
                    refine GL.val (rv_assign rfl) rfl ?_
                    refine GL.nil ?_
                    refine GX.then ?_
                    refine GC.ret ?_
                    refine GX.then_ret ?_
                    refine GX.ret2 rfl (RR.cellL ag_49 rfl (by exact Hd.cellsAll (k := 2) rfl) (by exact sz_49) (by ((simp [ws8_len, hd]; done)))) (RR.tmp rfl) ?_
                    exact fun w9 h => ⟨(none, 0), (by rw [hN, rn_no (by decide), rk_no (by decide), rs_no (by decide)]; rfl), by
                        have h := h.sel [] rfl rfl
                        have h := (h.nilRow 5 1).rowRo (k := 0) rfl
                        rw [hN, rk_no (by decide)]
                        exact h, (by rw [hN, rk_no (by decide)]; exact Nat.le_refl 0)⟩
                  · have h78 : ¬ dg ≠ au := by simpa using c78
                    have hN : nxt hv cn ck cs kd cn qk dg = 0 := by unfold nxt; rw [if_neg h14, if_neg h26, if_neg h51, if_neg h54b, if_neg h58, if_neg (hau ▸ h78)]
                    refine GC.skip ?_
                    refine GX.then ?_
                    refine GC.seq ?_
                    refine GC.reg ?_
                    refine GL.val (rv_loadAL ag_49 rfl (by exact Hd.cellsAll (k := 1) rfl) (by exact sz_49) (by ((simp [ws8_len, hd]; done)))) rfl ?_
                    refine GL.step (ot_store (k := 2) rfl rfl rfl rfl sz_49 rfl rfl (by ((simp only [repl, List.set_cons_zero, List.set_cons_succ]) <;> rfl)) ?_)
                    refine GL.val (rv_assign rfl) rfl ?_
                    refine GL.nil ?_
                    refine GX.then ?_
                    refine GC.ret ?_
                    refine GX.ret2 rfl (RR.cellL ag_49 rfl (by exact Hd.cellsAll (k := 2) rfl) (by exact sz_49) (by ((simp [ws8_len, hd]; done)))) (RR.tmp rfl) ?_
                    exact fun w9 h => ⟨g21, (by rw [hN, rn_0, rk_0, rs_0, show nser kd cs = cs + 1 from if_neg h51]; rfl), by
                        have h := h.sel [0] rfl rfl
                        rw [hN, rk_0]
                        exact h, (by rw [hN, rk_0]; exact h21)⟩
end Go.Proofs.Ytkifeeiafachpaa
