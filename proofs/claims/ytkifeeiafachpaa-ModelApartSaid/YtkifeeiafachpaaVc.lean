import Derived.Test.YtkifeeiafachpaaVb
set_option linter.unusedVariables false
set_option linter.unusedSimpArgs false
namespace Go.Proofs.Ytkifeeiafachpaa
open Go Go.RowKit Go.Bz
theorem fo_31_0 : fieldOff Try.prog 31 0 = some 0 := by kernel_rfl
theorem fo_31_1 : fieldOff Try.prog 31 1 = some 1 := by kernel_rfl
theorem fo_31_2 : fieldOff Try.prog 31 2 = some 2 := by kernel_rfl
theorem hb_42 : hasBody Try.prog 42 = true := by kernel_rfl
theorem pl_31 : placesB Try.prog 31 = some [(0, 1), (1, 1), (2, 1), (3, 32)] := by kernel_rfl
theorem pl_49 : placesB Try.prog 49 = some [(0, 1), (1, 1), (2, 1)] := by kernel_rfl
theorem sz_31 : (Try.prog.info? 31).map (·.size) = some 35 := by kernel_rfl
theorem zb_31 : zeroB Try.prog 31 = some (.agg #[.int .i64 0, .string ByteArray.empty, .slice none 0 0, .int .u8 0, .int .u8 0, .int .u8 0, .int .u8 0, .int .u8 0, .int .u8 0, .int .u8 0, .int .u8 0, .int .u8 0, .int .u8 0, .int .u8 0, .int .u8 0, .int .u8 0, .int .u8 0, .int .u8 0, .int .u8 0, .int .u8 0, .int .u8 0, .int .u8 0, .int .u8 0, .int .u8 0, .int .u8 0, .int .u8 0, .int .u8 0, .int .u8 0, .int .u8 0, .int .u8 0, .int .u8 0, .int .u8 0, .int .u8 0, .int .u8 0, .int .u8 0]) := by kernel_rfl
theorem zb_49 : zeroB Try.prog 49 = some (.agg #[.string ByteArray.empty, .slice none 0 0, .int .u64 0]) := by kernel_rfl
/-! requests -/
def qcell (kd : Int) (nm : ByteArray) (key : Sh.B) (kA : Option Addr) (kc : Nat) (dg : Sh.B) : List Value := .int .i64 kd :: .string nm :: .slice kA key.length kc :: ws8 dg
def pchk (kd : Int) (nm : ByteArray) (key : Sh.B) : Int := if kd ≠ 1 ∧ kd ≠ 2 then 1 else chk nm key
def auth (key : Sh.B) (nm : ByteArray) (ser : UInt64) (key2 : Sh.B) : Sh.B := mac key (65 :: (num (UInt64.ofNat nm.size) ++ (nm.data.toList ++ (num ser ++ key2))))
theorem auth_len (key : Sh.B) (nm : ByteArray) (ser : UInt64) (key2 : Sh.B) : (auth key nm ser key2).length = 32 := mac_len _ _
theorem qc_d {kd : Int} {nm : ByteArray} {key : Sh.B} {kA : Option Addr} {kc : Nat} {dg : Sh.B} : ((qcell kd nm key kA kc dg).drop 3).take (ws8 dg).length = ws8 dg := by unfold qcell; exact List.take_of_length_le (Nat.le_refl _)
theorem qc_one {kd : Int} {nm : ByteArray} {key : Sh.B} {kA : Option Addr} {kc : Nat} {dg : Sh.B} : (qcell kd nm key kA kc dg).all Value.oneCell' = true := by
  unfold qcell
  simp only [List.all_cons, ws8_one, Bool.and_true]; rfl
theorem qc_len {kd : Int} {nm : ByteArray} {key : Sh.B} {kA : Option Addr} {kc : Nat} {dg : Sh.B} (h : dg.length = 32) : (qcell kd nm key kA kc dg).length = 35 := by simp [qcell, ws8_len, h]
theorem auth_b (A1 : Option Addr) (n1 c1 : Nat) (key : Sh.B) (nm : ByteArray) (ser : UInt64) (A2 : Option Addr) (n2 c2 : Nat) (key2 : Sh.B) (w : World) (hR1 : SlR w A1 (byts key)) (hl1 : key.length = n1) (hc1 : n1 ≤ c1) (hR2 : SlR w A2 (byts key2)) (hl2 : key2.length = n2) (hc2 : n2 ≤ c2) (hk1 : n1 ≤ 1000000) (hk2 : n2 ≤ 1000000) (hnl : nm.size ≤ 1000000) : Calls Try.prog 62 [.slice A1 n1 c1, .string nm, v64 ser, .slice A2 n2 c2].toArray w fun e w' => ∃ _g : Unit, e = .returned (.agg (ws8 (auth key nm ser key2)).toArray) ∧ St noB w w' [] ∧ True := by
  unfold auth; exact auth_c A1 n1 c1 key nm ser A2 n2 c2 key2 w hR1 hl1 hc1 hR2 hl2 hc2 hk1 hk2 hnl
theorem rauth_b (A1 : Option Addr) (n1 c1 : Nat) (key : Sh.B) (nm : ByteArray) (ser : UInt64) (A2 : Option Addr) (n2 c2 : Nat) (key2 : Sh.B) (w : World) (hR1 : SlR w A1 (byts key)) (hl1 : key.length = n1) (hc1 : n1 ≤ c1) (hR2 : SlR w A2 (byts key2)) (hl2 : key2.length = n2) (hc2 : n2 ≤ c2) (hk1 : n1 ≤ 1000000) (hk2 : n2 ≤ 1000000) (hnl : nm.size ≤ 1000000) : Calls Try.prog 65 [.slice A1 n1 c1, .string nm, v64 ser, .slice A2 n2 c2].toArray w fun e w' => ∃ _g : Unit, e = .returned (.agg (ws8 (auth key nm ser key2)).toArray) ∧ St noB w w' [] ∧ True := by
  unfold auth; exact rauth_c A1 n1 c1 key nm ser A2 n2 c2 key2 w hR1 hl1 hc1 hR2 hl2 hc2 hk1 hk2 hnl
theorem rv_buildQ {K : Nat → Prop} {w0 : World} {n : Nat} {L : List (Nat × Value)} {Fs : List Pc} {ty : TypeId} {x0 x1 x2 x3 : Operand} {kd : Int} {nm : ByteArray} {key : Sh.B} {A : Option Addr} {c : Nat} {au : Sh.B} (h0 : ev L x0 = some (.int .i64 kd)) (h1 : ev L x1 = some (.string nm)) (h2 : ev L x2 = some (.slice A key.length c)) (h3 : ev L x3 = some (.agg (ws8 au).toArray)) (hal : au.length = 32) :
    RV Try.prog K w0 n L Fs (.build 31 [(0, x0), (1, x1), (2, x2), (3, x3)].toArray) ty (.agg (qcell kd nm key A c au).toArray) := by
  have e : (Value.agg (ws8 au).toArray).cells.toList = ws8 au := rfl
  refine rv_buildS (ps := [(0, .int .i64 kd), (1, .string nm), (2, .slice A key.length c), (3, .agg (ws8 au).toArray)]) pl_31 zb_31 (by simp only [evp, h0, h1, h2, h3]) ?_ ?_
  · simp only [bldOk, List.all_cons, List.all_nil, List.getElem?_cons_zero, List.getElem?_cons_succ, e, ws8_len, hal]; rfl
  · simp only [bldL, List.getElem?_cons_zero, List.getElem?_cons_succ, Option.getD_some, e]
    rw [repl_eq (ws8 au) _ _ (by rw [ws8_len, hal, length_repl, length_repl, length_repl]; decide), ws8_len, hal]
    rw [List.drop_eq_nil_of_le (by rw [length_repl, length_repl, length_repl]; decide), List.append_nil]
    rfl
set_option maxRecDepth 100000 in
set_option maxHeartbeats 1000000 in
theorem pcheck_c (kd : Int) (qn : ByteArray) (qk : Sh.B) (qA : Option Addr) (qc : Nat) (dg : Sh.B) (w : World) (hd : dg.length = 32) (hs : qn.size < 4611686018427387904) : Calls Try.prog 61 [.agg (qcell kd qn qk qA qc dg).toArray].toArray w fun e w' => ∃ _g : Unit, e = .returned (.int .i64 (pchk kd qn qk)) ∧ St noB w w' [] ∧ True := by
  refine GC.calls Try.func61 rfl rfl (St.begin _) ?_
  refine GC.seq ?_
  refine GC.reg ?_
  refine GL.step (ot_box rfl rfl rfl fun b1 => ?_)
  refine GL.val (rv_assign rfl) rfl ?_
  refine GL.nil ?_
  refine GX.then ?_
  refine GC.seq ?_
  refine GC.seq ?_
  refine GC.cutq (γ := Unit) [1] [0] (fun g Lk => (10, .bool (decide (¬ kd = 1 ∧ ¬ kd = 2))) :: Lk) (fun g Fk => Fk) (fun g => True) rfl rfl ?_ (fun _ _ => ?_)
  · rcases (by omega : (kd = 1) ∨ (kd = 2) ∨ (¬ kd = 1 ∧ ¬ kd = 2)) with h | h | h
    · rw [show decide (¬ kd = 1 ∧ ¬ kd = 2) = false from decide_eq_false (by omega)]
      refine GC.reg ?_
      refine GL.val (rv_field fo_31_0 rfl rfl) rfl ?_
      refine GL.val (rv_load ag_3 rfl (by exact Hd.cell (k := 0) rfl rfl)) rfl ?_
      refine GL.val ((by exact rv_to (v' := .bool false) (rv_neI rfl rfl) (by simp only [Value.bool.injEq, decide_eq_true_eq, decide_eq_false_iff_not]; first | assumption | omega))) rfl ?_
      refine GL.val (rv_move rfl) rfl ?_
      refine GL.skipG rfl rfl ?_
      refine GL.skipG rfl rfl ?_
      refine GL.skipG rfl rfl ?_
      refine GL.val ((by exact rv_andF rfl rfl rfl)) rfl ?_
      refine GL.nil ?_
      exact GX.cutq () trivial (by repeat (first | exact Sub.nil | refine Sub.cons rfl ?_)) (fun w9 h => by
          exact h)
    · rw [show decide (¬ kd = 1 ∧ ¬ kd = 2) = false from decide_eq_false (by omega)]
      refine GC.reg ?_
      refine GL.val (rv_field fo_31_0 rfl rfl) rfl ?_
      refine GL.val (rv_load ag_3 rfl (by exact Hd.cell (k := 0) rfl rfl)) rfl ?_
      refine GL.val ((by exact rv_to (v' := .bool true) (rv_neI rfl rfl) (by simp only [Value.bool.injEq, decide_eq_true_eq, decide_eq_false_iff_not]; first | assumption | omega))) rfl ?_
      refine GL.val (rv_move rfl) rfl ?_
      refine GL.valT rfl (rv_field fo_31_0 rfl rfl) rfl ?_
      refine GL.valT rfl (rv_load ag_3 rfl (by exact Hd.cell (k := 0) rfl rfl)) rfl ?_
      refine GL.valT rfl ((by exact rv_to (v' := .bool false) (rv_neI rfl rfl) (by simp only [Value.bool.injEq, decide_eq_true_eq, decide_eq_false_iff_not]; first | assumption | omega))) rfl ?_
      refine GL.val ((by exact rv_andT rfl rfl rfl)) rfl ?_
      refine GL.nil ?_
      exact GX.cutq () trivial (by repeat (first | exact Sub.nil | refine Sub.cons rfl ?_)) (fun w9 h => by
          exact h)
    · rw [show decide (¬ kd = 1 ∧ ¬ kd = 2) = true from decide_eq_true (by omega)]
      refine GC.reg ?_
      refine GL.val (rv_field fo_31_0 rfl rfl) rfl ?_
      refine GL.val (rv_load ag_3 rfl (by exact Hd.cell (k := 0) rfl rfl)) rfl ?_
      refine GL.val ((by exact rv_to (v' := .bool true) (rv_neI rfl rfl) (by simp only [Value.bool.injEq, decide_eq_true_eq, decide_eq_false_iff_not]; first | assumption | omega))) rfl ?_
      refine GL.val (rv_move rfl) rfl ?_
      refine GL.valT rfl (rv_field fo_31_0 rfl rfl) rfl ?_
      refine GL.valT rfl (rv_load ag_3 rfl (by exact Hd.cell (k := 0) rfl rfl)) rfl ?_
      refine GL.valT rfl ((by exact rv_to (v' := .bool true) (rv_neI rfl rfl) (by simp only [Value.bool.injEq, decide_eq_true_eq, decide_eq_false_iff_not]; first | assumption | omega))) rfl ?_
      refine GL.val ((by exact rv_andT rfl rfl rfl)) rfl ?_
      refine GL.nil ?_
      exact GX.cutq () trivial (by repeat (first | exact Sub.nil | refine Sub.cons rfl ?_)) (fun w9 h => by
          exact h)
  refine GX.then ?_
  refine GC.condP rfl (fun c10 => ?_) (fun c10 => ?_)
  · have hk := c10
    refine GC.seq ?_
    refine GC.reg ?_
    refine GL.val (rv_assign rfl) rfl ?_
    refine GL.nil ?_
    refine GX.then ?_
    refine GC.ret ?_
    refine GX.then_ret ?_
    refine GX.ret1 rfl (RR.tmp rfl) ?_
    exact fun w9 h => ⟨(), (by unfold pchk; rw [if_pos hk]), by
        have h := h.sel [] rfl rfl
        exact h, trivial⟩
  · have hk := c10
    refine GC.skip ?_
    refine GX.then ?_
    refine GC.seq ?_
    refine GC.reg ?_
    refine GL.val (rv_field fo_31_1 rfl rfl) rfl ?_
    refine GL.val (rv_load ag_9 rfl (by exact Hd.cell (k := 0) rfl rfl)) rfl ?_
    refine GL.val (rv_field fo_31_2 rfl rfl) rfl ?_
    refine GL.val (rv_load ag_27 rfl (by exact Hd.cell (k := 0) rfl rfl)) rfl ?_
    refine GL.val (rv_buildS pl_49 zb_49 rfl rfl (by ((simp only [bldL, repl, List.set_cons_zero, List.set_cons_succ, List.getElem?_cons_zero, List.getElem?_cons_succ, Option.getD_some, Value.cells]) <;> rfl))) rfl ?_
    refine GL.step (ot_call hb_42 rfl (callOk fun w hh => check_c2 qn qk qA qc 0 w hs) rfl fun _ _ => ?_)
    refine GL.val (rv_assign rfl) rfl ?_
    refine GL.nil ?_
    refine GX.then ?_
    refine GC.ret ?_
    refine GX.ret1 rfl (RR.tmp rfl) ?_
    exact fun w9 h => ⟨(), (by unfold pchk; rw [if_neg hk]), by
        have h := h.sel [] rfl rfl
        exact h, trivial⟩
end Go.Proofs.Ytkifeeiafachpaa
