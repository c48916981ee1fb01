import Derived.Test.YtkifeeiafachpaaJi
set_option linter.unusedVariables false
set_option linter.unusedSimpArgs false
namespace Go.Proofs.Ytkifeeiafachpaa
open Go Go.RowKit Go.Bz

section
variable {P : Program} {K : Nat → Prop} {w0 : World} {n : Nat} {L : List (Nat × Value)} {Fs : List Pc}
theorem rv_maxU {t ty : TypeId} {x y : Operand} {a b : UInt64} (ex : ev L x = some (v64 a)) (ey : ev L y = some (v64 b)) : RV P K w0 n L Fs (.call { callee := .builtin .max, args := #[x, y], argTypes := #[t, t] }) ty (v64 (if a.toNat < b.toNat then b else a)) := fun w a' hs hf d pos af g => by
  simp only [execOp, resolve, List.map_toArray, List.map_cons, List.map_nil, hf.ev ex, hf.ev ey]
  have : (Builtin.max_ #[t, t] ty #[v64 a, v64 b]).run P w = .ok (v64 (if a.toNat < b.toNat then b else a)) w := by
    by_cases h : a.toNat < b.toNat
    · simp [Builtin.max_, Builtin.max2, v64, h, go_sem]
    · simp [Builtin.max_, Builtin.max2, v64, h, go_sem]
  simp only [invoke, builtin, Sem.run_bind, Sem.run_pure, Result.andThen_ok, this]
end
theorem sub1 {n : UInt64} (h : 1 ≤ n.toNat) : (n - 1).toNat = n.toNat - 1 := by
  rw [UInt64.toNat_sub_of_le _ _ (UInt64.le_iff_toNat_le.2 (show (1 : UInt64).toNat ≤ n.toNat from h))]; rfl
theorem add1 {n : UInt64} (h : n.toNat < 18446744073709551615) : (n + 1).toNat = n.toNat + 1 := by
  rw [UInt64.toNat_add, show (1 : UInt64).toNat = 1 from rfl]; omega
theorem slr_cells {w : World} {b o : Nat} {us : List Value} (h : SlR w (some ⟨b, o, none⟩) us) (hn : us ≠ []) : Cells w b o us := by
  obtain ⟨b', o', e, hC⟩ := slr_some h hn
  cases e; exact hC
abbrev FndZ := UInt64 × Bool × BindZ
def fzc (z : FndZ) : List Value := v64 z.1 :: .bool z.2.1 :: bzc z.2.2
abbrev Fd := UInt64 × Bool × Bd
def fpl (z : FndZ) : Fd := (z.1, z.2.1, bpl z.2.2)
def fz0 : FndZ := (0, false, bz0)
def f0 : Fd := (0, false, bd0)
abbrev FsZ := (Option Addr × Nat) × List FndZ
def zfx (z : FndZ) : Fact := bfx z.2.2
def ffx (e : FsZ) : List Fact := (e.1.1, fcat fzc e.2) :: e.2.map zfx
theorem fz_len {l : List FndZ} : ∀ x ∈ l, (fzc x).length = 5 := fun _ _ => rfl
theorem fz_one {l : List FndZ} : (fcat fzc l).all Value.oneCell' = true := fcat_one' fun _ _ => rfl
def fOk (z : FndZ) : Prop := bOk z.2.2
def fdP (l : List Bd) (nm : ByteArray) (e : UInt64) : Fd := (e, (fnd l nm).isSome, (fnd l nm).getD bd0)
def histL (d : Dz) (nm : ByteArray) (fr : UInt64) (k : Nat) : List Fd := (List.range k).map fun i => fdP (d.1.getD (fr.toNat - 1 + i) []) nm (fr + UInt64.ofNat i)
def histP (d : Dz) (nm : ByteArray) (fr to : UInt64) : Int × List Fd := if ¬ ckP d then (1, []) else if okn nm = false then (4, []) else if ansE d fr ≠ 0 then (ansE d fr, []) else if ansE d to ≠ 0 then (ansE d to, []) else if to.toNat < fr.toNat then (2, []) else (0, histL d nm fr (to.toNat + 1 - fr.toNat))
def lookP (d : Dz) (nm : ByteArray) (e : UInt64) : Int × Fd := if ¬ ckP d then (1, f0) else if okn nm = false then (4, f0) else if ansE d e ≠ 0 then (ansE d e, f0) else (0, fdP (d.1.getD (e.toNat - 1) []) nm e)
theorem hist_ck {d : Dz} {nm : ByteArray} {fr to : UInt64} (h : ¬ ckP d) : histP d nm fr to = (1, []) := if_pos h
theorem hist_nm {d : Dz} {nm : ByteArray} {fr to : UInt64} (h : ckP d) (k : okn nm = false) : histP d nm fr to = (4, []) := by unfold histP; rw [if_neg (fun x => x h), if_pos k]
theorem hist_fr {d : Dz} {nm : ByteArray} {fr to : UInt64} (h : ckP d) (k : okn nm = true) (a : ansE d fr ≠ 0) : histP d nm fr to = (ansE d fr, []) := by unfold histP; rw [if_neg (fun x => x h), if_neg (by rw [k]; decide), if_pos a]
theorem hist_to {d : Dz} {nm : ByteArray} {fr to : UInt64} (h : ckP d) (k : okn nm = true) (a : ansE d fr = 0) (b : ansE d to ≠ 0) : histP d nm fr to = (ansE d to, []) := by unfold histP; rw [if_neg (fun x => x h), if_neg (by rw [k]; decide), if_neg (fun x => x a), if_pos b]
theorem hist_gt {d : Dz} {nm : ByteArray} {fr to : UInt64} (h : ckP d) (k : okn nm = true) (a : ansE d fr = 0) (b : ansE d to = 0) (c : to.toNat < fr.toNat) : histP d nm fr to = (2, []) := by unfold histP; rw [if_neg (fun x => x h), if_neg (by rw [k]; decide), if_neg (fun x => x a), if_neg (fun x => x b), if_pos c]
theorem hist_ok {d : Dz} {nm : ByteArray} {fr to : UInt64} (h : ckP d) (k : okn nm = true) (a : ansE d fr = 0) (b : ansE d to = 0) (c : ¬ to.toNat < fr.toNat) : histP d nm fr to = (0, histL d nm fr (to.toNat + 1 - fr.toNat)) := by unfold histP; rw [if_neg (fun x => x h), if_neg (by rw [k]; decide), if_neg (fun x => x a), if_neg (fun x => x b), if_neg c]
theorem look_hist {d : Dz} {nm : ByteArray} {e : UInt64} : (lookP d nm e).1 = (histP d nm e e).1 ∧ ((histP d nm e e).1 = 0 → (histP d nm e e).2 = [(lookP d nm e).2]) ∧ ((histP d nm e e).1 ≠ 0 → (lookP d nm e).2 = f0) := by
  by_cases h : ckP d
  · have l1 : lookP d nm e = if okn nm = false then (4, f0) else if ansE d e ≠ 0 then (ansE d e, f0) else (0, fdP (d.1.getD (e.toNat - 1) []) nm e) := if_neg (fun x => x h)
    by_cases k : okn nm = false
    · rw [l1, if_pos k, hist_nm h k]; exact ⟨rfl, fun x => (by cases x), fun _ => rfl⟩
    · have k' : okn nm = true := by simpa using k
      rw [l1, if_neg k]
      by_cases a : ansE d e ≠ 0
      · rw [if_pos a, hist_fr h k' a]; exact ⟨rfl, fun x => absurd x a, fun _ => rfl⟩
      · have a' : ansE d e = 0 := Decidable.byContradiction a
        rw [if_neg a, hist_ok h k' a' a' (Nat.lt_irrefl _)]
        refine ⟨rfl, fun _ => ?_, fun x => absurd rfl x⟩
        unfold histL
        rw [show e.toNat + 1 - e.toNat = 1 by omega]
        simp [List.range_succ]
  · rw [hist_ck h, show lookP d nm e = (1, f0) from if_pos h]; exact ⟨rfl, fun x => (by cases x), fun _ => rfl⟩
theorem ans_0 {d : Dz} {e : UInt64} (h : ansE d e = 0) : 1 ≤ e.toNat ∧ e.toNat ≤ d.1.length ∧ d.2.2.toNat ≤ e.toNat := by
  unfold ansE at h
  split at h
  · cases h
  · split at h
    · cases h
    · omega
theorem histL_s {d : Dz} {nm : ByteArray} {fr n : UInt64} {i : Nat} (hn : n.toNat = fr.toNat + i) (h1 : 1 ≤ fr.toNat) (hlt : n.toNat - 1 < d.1.length) : histL d nm fr (i + 1) = histL d nm fr i ++ [fdP d.1[n.toNat - 1] nm n] := by
  unfold histL
  rw [List.range_succ, List.map_append, List.map_singleton]
  have e1 : fr.toNat - 1 + i = n.toNat - 1 := by omega
  have e2 : fr + UInt64.ofNat i = n := by
    apply UInt64.toNat_inj.1
    have := n.toNat_lt
    rw [UInt64.toNat_add, UInt64.toNat_ofNat', hn, Nat.mod_eq_of_lt (show i < 2 ^ 64 by omega), Nat.mod_eq_of_lt (by omega)]
  rw [e1, e2, List.getD_eq_getElem?_getD, List.getElem?_eq_getElem hlt]; rfl
set_option maxRecDepth 100000 in
set_option maxHeartbeats 1000000 in
theorem mnew_c (w : World) : Calls Try.prog 15 [].toArray w fun e w' => ∃ _g : Unit, e = .returned (.agg (dcell (((none, 0), []), ((none, 0), []), 1)).toArray) ∧ St noB w w' [] ∧ True := by
  refine GC.calls Try.func15 rfl rfl (St.begin _) ?_
  refine GC.seq ?_
  refine GC.reg ?_
  refine GL.step (ot_alloc (zs := [.slice none 0 0, .slice none 0 0, .int .u64 0]) zb_26 rfl rfl fun b0 => ?_)
  refine GL.nil ?_
  refine GX.then ?_
  refine GC.seq ?_
  refine GC.reg ?_
  refine GL.val (rv_to (v' := .agg (dcell (((none, 0), []), ((none, 0), []), 1)).toArray) (rv_buildS pl_26 zb_26 rfl rfl rfl) rfl) rfl ?_
  refine GL.step (ot_store (k := 0) rfl rfl rfl rfl sz_26 rfl rfl (show repl _ 0 (dcell (((none, 0), []), ((none, 0), []), 1)) = dcell (((none, 0), []), ((none, 0), []), 1) from rfl) ?_)
  refine GL.nil ?_
  refine GX.then ?_
  refine GC.ret ?_
  refine GX.ret1 rfl (RR.cell ag_26 rfl (by exact Hd.cellsAll (k := 0) rfl) (by exact sz_26)) ?_
  exact fun w9 h => ⟨(), rfl, by
      have h := h.sel [] rfl rfl
      exact h, trivial⟩
theorem ans_no {d : DirZ} {ep : UInt64} (h : ep.toNat < 1 ∨ d.1.2.length < ep.toNat) : ansE (dpl d) ep = 10 := by
  unfold ansE; rw [if_pos (by show _ ∨ (d.1.2.map epl).length < _; rw [List.length_map]; exact h)]
theorem ans_lt {d : DirZ} {ep : UInt64} (h : ¬ (ep.toNat < 1 ∨ d.1.2.length < ep.toNat)) (k : ep.toNat < d.2.2.toNat) : ansE (dpl d) ep = 11 := by
  unfold ansE; rw [if_neg (by show ¬ (_ ∨ (d.1.2.map epl).length < _); rw [List.length_map]; exact h), if_pos (show ep.toNat < (dpl d).2.2.toNat from k)]
theorem ans_ok {d : DirZ} {ep : UInt64} (h : ¬ (ep.toNat < 1 ∨ d.1.2.length < ep.toNat)) (k : ¬ ep.toNat < d.2.2.toNat) : ansE (dpl d) ep = 0 := by
  unfold ansE; rw [if_neg (by show ¬ (_ ∨ (d.1.2.map epl).length < _); rw [List.length_map]; exact h), if_neg (show ¬ ep.toNat < (dpl d).2.2.toNat from k)]
set_option maxRecDepth 100000 in
set_option maxHeartbeats 1000000 in
theorem ans_c (d : DirZ) (ep : UInt64) (w : World) (hok : dOk d) : Calls Try.prog 48 [.agg (dcell d).toArray, v64 ep].toArray w fun e w' => ∃ _g : Unit, e = .returned (.int .i64 (ansE (dpl d) ep)) ∧ St noB w w' [] ∧ True := by
  refine GC.calls Try.func48 rfl rfl (St.begin _) ?_
  obtain ⟨hok1, hok2, hok3, hok4⟩ := id hok
  refine GC.seq ?_
  refine GC.reg ?_
  refine GL.step (ot_box rfl rfl rfl fun b2 => ?_)
  refine GL.val (rv_assign rfl) rfl ?_
  refine GL.nil ?_
  refine GX.then ?_
  refine GC.seq ?_
  refine GC.block ?_
  refine GC.seq ?_
  refine GC.cutq (γ := Unit) [2, 1] [0] (fun g Lk => (5, .bool (decide (ep.toNat < 1 ∨ d.1.2.length < ep.toNat))) :: Lk) (fun g Fk => Fk) (fun g => True) rfl rfl ?_ (fun _ _ => ?_)
  · rcases (by omega : ep.toNat < 1 ∨ (1 ≤ ep.toNat ∧ d.1.2.length < ep.toNat) ∨ (1 ≤ ep.toNat ∧ ep.toNat ≤ d.1.2.length)) with h | h | h
    · rw [show decide (ep.toNat < 1 ∨ d.1.2.length < ep.toNat) = true from decide_eq_true (by omega)]
      refine GC.reg ?_
      refine GL.val (rv_move rfl) rfl ?_
      refine GL.val ((by exact rv_to (v' := .bool true) (rv_lss rfl rfl) (congrArg Value.bool (decide_eq_true (by omega))))) rfl ?_
      refine GL.val (rv_move rfl) rfl ?_
      refine GL.skipG rfl rfl ?_
      refine GL.skipG rfl rfl ?_
      refine GL.skipG rfl rfl ?_
      refine GL.skipG rfl rfl ?_
      refine GL.skipG rfl rfl ?_
      refine GL.skipG rfl rfl ?_
      refine GL.val ((by exact rv_orT rfl rfl rfl)) rfl ?_
      refine GL.val (rv_assign rfl) rfl ?_
      refine GL.nil ?_
      exact GX.cutq () trivial (by repeat (first | exact Sub.nil | refine Sub.cons rfl ?_)) (fun w9 h => by
          exact h)
    · rw [show decide (ep.toNat < 1 ∨ d.1.2.length < ep.toNat) = true from decide_eq_true (by omega)]
      refine GC.reg ?_
      refine GL.val (rv_move rfl) rfl ?_
      refine GL.val ((by exact rv_to (v' := .bool false) (rv_lss rfl rfl) (congrArg Value.bool (decide_eq_false (by omega))))) rfl ?_
      refine GL.val (rv_move rfl) rfl ?_
      refine GL.valT rfl (rv_move rfl) rfl ?_
      refine GL.valT rfl (rv_field fo_26_0 rfl rfl) rfl ?_
      refine GL.valT rfl (rv_load ag_22 rfl (Hd.cell (k := 0) rfl rfl)) rfl ?_
      refine GL.valT rfl (rv_lenSl Try.underlying22 rfl) rfl ?_
      refine GL.valT rfl (rv_conv64I d.1.2.length Try.underlying3 Try.underlying24 rfl rfl) rfl ?_
      refine GL.valT rfl ((by exact rv_to (v' := .bool true) (rv_gtr rfl rfl) (congrArg Value.bool (decide_eq_true (by rw [ofNat_toNat64 (by omega)]; omega))))) rfl ?_
      refine GL.val ((by exact rv_orF rfl rfl rfl)) rfl ?_
      refine GL.val (rv_assign rfl) rfl ?_
      refine GL.nil ?_
      exact GX.cutq () trivial (by repeat (first | exact Sub.nil | refine Sub.cons rfl ?_)) (fun w9 h => by
          exact h)
    · rw [show decide (ep.toNat < 1 ∨ d.1.2.length < ep.toNat) = false from decide_eq_false (by omega)]
      refine GC.reg ?_
      refine GL.val (rv_move rfl) rfl ?_
      refine GL.val ((by exact rv_to (v' := .bool false) (rv_lss rfl rfl) (congrArg Value.bool (decide_eq_false (by omega))))) rfl ?_
      refine GL.val (rv_move rfl) rfl ?_
      refine GL.valT rfl (rv_move rfl) rfl ?_
      refine GL.valT rfl (rv_field fo_26_0 rfl rfl) rfl ?_
      refine GL.valT rfl (rv_load ag_22 rfl (Hd.cell (k := 0) rfl rfl)) rfl ?_
      refine GL.valT rfl (rv_lenSl Try.underlying22 rfl) rfl ?_
      refine GL.valT rfl (rv_conv64I d.1.2.length Try.underlying3 Try.underlying24 rfl rfl) rfl ?_
      refine GL.valT rfl ((by exact rv_to (v' := .bool false) (rv_gtr rfl rfl) (congrArg Value.bool (decide_eq_false (by rw [ofNat_toNat64 (by omega)]; omega))))) rfl ?_
      refine GL.val ((by exact rv_orF rfl rfl rfl)) rfl ?_
      refine GL.val (rv_assign rfl) rfl ?_
      refine GL.nil ?_
      exact GX.cutq () trivial (by repeat (first | exact Sub.nil | refine Sub.cons rfl ?_)) (fun w9 h => by
          exact h)
  refine GX.then ?_
  refine GC.condP rfl (fun c5 => ?_) (fun c5 => ?_)
  · have hn := c5
    refine GC.seq ?_
    refine GC.reg ?_
    refine GL.val (rv_assign rfl) rfl ?_
    refine GL.nil ?_
    refine GX.then ?_
    refine GC.ret ?_
    refine GX.blk_ret ?_
    refine GX.then_ret ?_
    refine GX.ret1 rfl (RR.tmp rfl) ?_
    exact fun w9 h => ⟨(), (by rw [ans_no hn]), by
        have h := h.sel [] rfl rfl
        exact h, trivial⟩
  · have hn := c5
    refine GC.seq ?_
    refine GC.reg ?_
    refine GL.val (rv_move rfl) rfl ?_
    refine GL.val (rv_field fo_26_2 rfl rfl) rfl ?_
    refine GL.val (rv_load ag_24 rfl (Hd.cell (k := 0) rfl rfl)) rfl ?_
    refine GL.val (rv_lss rfl rfl) rfl ?_
    refine GL.val (rv_assign rfl) rfl ?_
    refine GL.nil ?_
    refine GX.then ?_
    refine GC.condP rfl (fun c16 => ?_) (fun c16 => ?_)
    · have hk : ep.toNat < d.2.2.toNat := by omega
      refine GC.seq ?_
      refine GC.reg ?_
      refine GL.val (rv_assign rfl) rfl ?_
      refine GL.nil ?_
      refine GX.then ?_
      refine GC.ret ?_
      refine GX.blk_ret ?_
      refine GX.then_ret ?_
      refine GX.ret1 rfl (RR.tmp rfl) ?_
      exact fun w9 h => ⟨(), (by rw [ans_lt hn hk]), by
          have h := h.sel [] rfl rfl
          exact h, trivial⟩
    · have hk : ¬ ep.toNat < d.2.2.toNat := by omega
      refine GC.skip ?_
      refine GX.blk ?_
      refine GX.then ?_
      refine GC.seq ?_
      refine GC.reg ?_
      refine GL.val (rv_assign rfl) rfl ?_
      refine GL.nil ?_
      refine GX.then ?_
      refine GC.ret ?_
      refine GX.ret1 rfl (RR.tmp rfl) ?_
      exact fun w9 h => ⟨(), (by rw [ans_ok hn hk]), by
          have h := h.sel [] rfl rfl
          exact h, trivial⟩
set_option maxRecDepth 100000 in
set_option maxHeartbeats 1000000 in
theorem rans_c (d : DirZ) (ep : UInt64) (w : World) (hok : dOk d) : Calls Try.prog 46 [.agg (dcell d).toArray, v64 ep].toArray w fun e w' => ∃ _g : Unit, e = .returned (.int .i64 (ansE (dpl d) ep)) ∧ St noB w w' [] ∧ True := by
  refine GC.calls Try.func46 rfl rfl (St.begin _) ?_
  obtain ⟨hok1, hok2, hok3, hok4⟩ := id hok
  refine GC.seq ?_
  refine GC.reg ?_
  refine GL.step (ot_box rfl rfl rfl fun b2 => ?_)
  refine GL.val (rv_assign rfl) rfl ?_
  refine GL.nil ?_
  refine GX.then ?_
  refine GC.seq ?_
  refine GC.seq ?_
  refine GC.cutq (γ := Unit) [2, 1] [0] (fun g Lk => (14, .bool (decide (ep.toNat < 1 ∨ d.1.2.length < ep.toNat))) :: Lk) (fun g Fk => Fk) (fun g => True) rfl rfl ?_ (fun _ _ => ?_)
  · rcases (by omega : ep.toNat < 1 ∨ (1 ≤ ep.toNat ∧ d.1.2.length < ep.toNat) ∨ (1 ≤ ep.toNat ∧ ep.toNat ≤ d.1.2.length)) with h | h | h
    · rw [show decide (ep.toNat < 1 ∨ d.1.2.length < ep.toNat) = true from decide_eq_true (by omega)]
      refine GC.reg ?_
      refine GL.val (rv_move rfl) rfl ?_
      refine GL.val ((by exact rv_to (v' := .bool true) (rv_lss rfl rfl) (congrArg Value.bool (decide_eq_true (by omega))))) rfl ?_
      refine GL.val (rv_move rfl) rfl ?_
      refine GL.skipG rfl rfl ?_
      refine GL.skipG rfl rfl ?_
      refine GL.skipG rfl rfl ?_
      refine GL.skipG rfl rfl ?_
      refine GL.skipG rfl rfl ?_
      refine GL.skipG rfl rfl ?_
      refine GL.val ((by exact rv_orT rfl rfl rfl)) rfl ?_
      refine GL.nil ?_
      exact GX.cutq () trivial (by repeat (first | exact Sub.nil | refine Sub.cons rfl ?_)) (fun w9 h => by
          exact h)
    · rw [show decide (ep.toNat < 1 ∨ d.1.2.length < ep.toNat) = true from decide_eq_true (by omega)]
      refine GC.reg ?_
      refine GL.val (rv_move rfl) rfl ?_
      refine GL.val ((by exact rv_to (v' := .bool false) (rv_lss rfl rfl) (congrArg Value.bool (decide_eq_false (by omega))))) rfl ?_
      refine GL.val (rv_move rfl) rfl ?_
      refine GL.valT rfl (rv_move rfl) rfl ?_
      refine GL.valT rfl (rv_field fo_26_0 rfl rfl) rfl ?_
      refine GL.valT rfl (rv_load ag_22 rfl (Hd.cell (k := 0) rfl rfl)) rfl ?_
      refine GL.valT rfl (rv_lenSl Try.underlying22 rfl) rfl ?_
      refine GL.valT rfl (rv_conv64I d.1.2.length Try.underlying3 Try.underlying24 rfl rfl) rfl ?_
      refine GL.valT rfl ((by exact rv_to (v' := .bool true) (rv_gtr rfl rfl) (congrArg Value.bool (decide_eq_true (by rw [ofNat_toNat64 (by omega)]; omega))))) rfl ?_
      refine GL.val ((by exact rv_orF rfl rfl rfl)) rfl ?_
      refine GL.nil ?_
      exact GX.cutq () trivial (by repeat (first | exact Sub.nil | refine Sub.cons rfl ?_)) (fun w9 h => by
          exact h)
    · rw [show decide (ep.toNat < 1 ∨ d.1.2.length < ep.toNat) = false from decide_eq_false (by omega)]
      refine GC.reg ?_
      refine GL.val (rv_move rfl) rfl ?_
      refine GL.val ((by exact rv_to (v' := .bool false) (rv_lss rfl rfl) (congrArg Value.bool (decide_eq_false (by omega))))) rfl ?_
      refine GL.val (rv_move rfl) rfl ?_
      refine GL.valT rfl (rv_move rfl) rfl ?_
      refine GL.valT rfl (rv_field fo_26_0 rfl rfl) rfl ?_
      refine GL.valT rfl (rv_load ag_22 rfl (Hd.cell (k := 0) rfl rfl)) rfl ?_
      refine GL.valT rfl (rv_lenSl Try.underlying22 rfl) rfl ?_
      refine GL.valT rfl (rv_conv64I d.1.2.length Try.underlying3 Try.underlying24 rfl rfl) rfl ?_
      refine GL.valT rfl ((by exact rv_to (v' := .bool false) (rv_gtr rfl rfl) (congrArg Value.bool (decide_eq_false (by rw [ofNat_toNat64 (by omega)]; omega))))) rfl ?_
      refine GL.val ((by exact rv_orF rfl rfl rfl)) rfl ?_
      refine GL.nil ?_
      exact GX.cutq () trivial (by repeat (first | exact Sub.nil | refine Sub.cons rfl ?_)) (fun w9 h => by
          exact h)
  refine GX.then ?_
  refine GC.condP rfl (fun c14 => ?_) (fun c14 => ?_)
  · have hn := c14
    refine GC.seq ?_
    refine GC.reg ?_
    refine GL.val (rv_assign rfl) rfl ?_
    refine GL.nil ?_
    refine GX.then ?_
    refine GC.ret ?_
    refine GX.then_ret ?_
    refine GX.ret1 rfl (RR.tmp rfl) ?_
    exact fun w9 h => ⟨(), (by rw [ans_no hn]), by
        have h := h.sel [] rfl rfl
        exact h, trivial⟩
  · have hn := c14
    refine GC.skip ?_
    refine GX.then ?_
    refine GC.seq ?_
    refine GC.seq ?_
    refine GC.reg ?_
    refine GL.val (rv_move rfl) rfl ?_
    refine GL.val (rv_field fo_26_2 rfl rfl) rfl ?_
    refine GL.val (rv_load ag_24 rfl (Hd.cell (k := 0) rfl rfl)) rfl ?_
    refine GL.val (rv_lss rfl rfl) rfl ?_
    refine GL.nil ?_
    refine GX.then ?_
    refine GC.condP rfl (fun c18 => ?_) (fun c18 => ?_)
    · have hk : ep.toNat < d.2.2.toNat := by omega
      refine GC.seq ?_
      refine GC.reg ?_
      refine GL.val (rv_assign rfl) rfl ?_
      refine GL.nil ?_
      refine GX.then ?_
      refine GC.ret ?_
      refine GX.then_ret ?_
      refine GX.ret1 rfl (RR.tmp rfl) ?_
      exact fun w9 h => ⟨(), (by rw [ans_lt hn hk]), by
          have h := h.sel [] rfl rfl
          exact h, trivial⟩
    · have hk : ¬ ep.toNat < d.2.2.toNat := by omega
      refine GC.skip ?_
      refine GX.then ?_
      refine GC.seq ?_
      refine GC.reg ?_
      refine GL.val (rv_assign rfl) rfl ?_
      refine GL.nil ?_
      refine GX.then ?_
      refine GC.ret ?_
      refine GX.ret1 rfl (RR.tmp rfl) ?_
      exact fun w9 h => ⟨(), (by rw [ans_ok hn hk]), by
          have h := h.sel [] rfl rfl
          exact h, trivial⟩
set_option maxRecDepth 100000 in
set_option maxHeartbeats 1000000 in
theorem prune_c (d : DirZ) (to : UInt64) (w : World) (hD : Has w (dfx d)) (hok : dOk d) : Calls Try.prog 19 [.agg (dcell d).toArray, v64 to].toArray w fun e w' => ∃ g : DirZ × List Fact, e = .returned (.tuple #[.agg (dcell g.1).toArray, .int .i64 (pruneP (dpl d) to).1]) ∧ St noB w w' [frzN g.2] ∧ (dpl g.1 = (pruneP (dpl d) to).2 ∧ Sbs (dfx g.1) g.2 (([] : List Fact)) ∧ dOk g.1) := by
  refine GC.calls Try.func19 rfl rfl (St.begin _) ?_
  obtain ⟨hok1, hok2, hok3, hok4⟩ := id hok
  have hln : (dpl d).1.length = d.1.2.length := by show (d.1.2.map epl).length = _; rw [List.length_map]
  refine GC.seq ?_
  refine GC.reg ?_
  refine GL.step (ot_box rfl rfl rfl fun b2 => ?_)
  refine GL.step (ot_alloc (zs := [.slice none 0 0, .slice none 0 0, .int .u64 0]) zb_26 rfl rfl fun b4 => ?_)
  refine GL.val (rv_assign rfl) rfl ?_
  refine GL.nil ?_
  refine GX.then ?_
  refine GC.seq ?_
  refine GC.seq ?_
  refine GC.reg ?_
  refine GL.val (rv_loadA ag_26 rfl (Hd.cells (k := 1) rfl (us := dcell d) rfl) (by exact sz_26)) rfl ?_
  refine GL.step (ot_call hb_12 rfl (callOk fun w hh => ck_c d w (hD.lift hh) hok) rfl fun _ _ => ?_)
  refine GL.val (rv_assign rfl) rfl ?_
  refine GL.nil ?_
  refine GX.then ?_
  refine GC.seq ?_
  refine GC.reg ?_
  refine GL.val (rv_move rfl) rfl ?_
  refine GL.val (rv_neI rfl rfl) rfl ?_
  refine GL.nil ?_
  refine GX.then ?_
  refine GC.condP rfl (fun c10 => ?_) (fun c10 => ?_)
  · obtain ⟨hnc, hc1⟩ := ck_one c10
    rw [hc1]
    refine GC.seq ?_
    refine GC.reg ?_
    refine GL.val (rv_to (v' := .agg (dcell dz0).toArray) (rv_buildS pl_26 zb_26 rfl rfl rfl) rfl) rfl ?_
    refine GL.val (rv_move rfl) rfl ?_
    refine GL.step (ot_store (k := 0) rfl rfl rfl rfl sz_26 rfl rfl (show repl _ 0 (dcell dz0) = dcell dz0 from rfl) ?_)
    refine GL.val (rv_assign rfl) rfl ?_
    refine GL.nil ?_
    refine GX.then ?_
    refine GC.ret ?_
    refine GX.then_ret ?_
    refine GX.ret2 rfl (RR.cell ag_26 rfl (by exact Hd.cellsAll (k := 0) rfl) (by exact sz_26)) (RR.tmp rfl) ?_
    exact fun w9 h => ⟨(dz0, []), (by rw [prune_ck hnc] <;> rfl), by
        have h := h.sel [] rfl rfl
        have h := (h.take 0).frzN0
        exact h, ⟨by rw [prune_ck hnc] <;> rfl, dz0_fx _ _, dz0_ok⟩⟩
  · have hck : ckP (dpl d) := ck_iff.1 (Decidable.byContradiction c10)
    refine GC.skip ?_
    refine GX.then ?_
    refine GC.seq ?_
    refine GC.seq ?_
    refine GC.cutq (γ := Unit) [4, 2, 1] [1, 0] (fun g Lk => (22, .bool (decide (to.toNat < 1 ∨ d.1.2.length < to.toNat))) :: Lk) (fun g Fk => Fk) (fun g => True) rfl rfl ?_ (fun _ _ => ?_)
    · rcases (by omega : to.toNat < 1 ∨ (1 ≤ to.toNat ∧ d.1.2.length < to.toNat) ∨ (1 ≤ to.toNat ∧ to.toNat ≤ d.1.2.length)) with h | h | h
      · rw [show decide (to.toNat < 1 ∨ d.1.2.length < to.toNat) = true from decide_eq_true (by omega)]
        refine GC.reg ?_
        refine GL.val (rv_move rfl) rfl ?_
        refine GL.val ((by exact rv_to (v' := .bool true) (rv_lss rfl rfl) (congrArg Value.bool (decide_eq_true (by omega))))) rfl ?_
        refine GL.val (rv_move rfl) rfl ?_
        refine GL.skipG rfl rfl ?_
        refine GL.skipG rfl rfl ?_
        refine GL.skipG rfl rfl ?_
        refine GL.skipG rfl rfl ?_
        refine GL.skipG rfl rfl ?_
        refine GL.skipG rfl rfl ?_
        refine GL.val ((by exact rv_orT rfl rfl rfl)) rfl ?_
        refine GL.nil ?_
        exact GX.cutq () trivial (by repeat (first | exact Sub.nil | refine Sub.cons rfl ?_)) (fun w9 h => by
            exact h)
      · rw [show decide (to.toNat < 1 ∨ d.1.2.length < to.toNat) = true from decide_eq_true (by omega)]
        refine GC.reg ?_
        refine GL.val (rv_move rfl) rfl ?_
        refine GL.val ((by exact rv_to (v' := .bool false) (rv_lss rfl rfl) (congrArg Value.bool (decide_eq_false (by omega))))) rfl ?_
        refine GL.val (rv_move rfl) rfl ?_
        refine GL.valT rfl (rv_move rfl) rfl ?_
        refine GL.valT rfl (rv_field fo_26_0 rfl rfl) rfl ?_
        refine GL.valT rfl (rv_load ag_22 rfl (Hd.cell (k := 1) rfl rfl)) rfl ?_
        refine GL.valT rfl (rv_lenSl Try.underlying22 rfl) rfl ?_
        refine GL.valT rfl (rv_conv64I d.1.2.length Try.underlying3 Try.underlying24 rfl rfl) rfl ?_
        refine GL.valT rfl ((by exact rv_to (v' := .bool true) (rv_gtr rfl rfl) (congrArg Value.bool (decide_eq_true (by rw [ofNat_toNat64 (by omega)]; omega))))) rfl ?_
        refine GL.val ((by exact rv_orF rfl rfl rfl)) rfl ?_
        refine GL.nil ?_
        exact GX.cutq () trivial (by repeat (first | exact Sub.nil | refine Sub.cons rfl ?_)) (fun w9 h => by
            exact h)
      · rw [show decide (to.toNat < 1 ∨ d.1.2.length < to.toNat) = false from decide_eq_false (by omega)]
        refine GC.reg ?_
        refine GL.val (rv_move rfl) rfl ?_
        refine GL.val ((by exact rv_to (v' := .bool false) (rv_lss rfl rfl) (congrArg Value.bool (decide_eq_false (by omega))))) rfl ?_
        refine GL.val (rv_move rfl) rfl ?_
        refine GL.valT rfl (rv_move rfl) rfl ?_
        refine GL.valT rfl (rv_field fo_26_0 rfl rfl) rfl ?_
        refine GL.valT rfl (rv_load ag_22 rfl (Hd.cell (k := 1) rfl rfl)) rfl ?_
        refine GL.valT rfl (rv_lenSl Try.underlying22 rfl) rfl ?_
        refine GL.valT rfl (rv_conv64I d.1.2.length Try.underlying3 Try.underlying24 rfl rfl) rfl ?_
        refine GL.valT rfl ((by exact rv_to (v' := .bool false) (rv_gtr rfl rfl) (congrArg Value.bool (decide_eq_false (by rw [ofNat_toNat64 (by omega)]; omega))))) rfl ?_
        refine GL.val ((by exact rv_orF rfl rfl rfl)) rfl ?_
        refine GL.nil ?_
        exact GX.cutq () trivial (by repeat (first | exact Sub.nil | refine Sub.cons rfl ?_)) (fun w9 h => by
            exact h)
    refine GX.then ?_
    refine GC.condP rfl (fun c22 => ?_) (fun c22 => ?_)
    · have hfu : to.toNat < 1 ∨ (dpl d).1.length < to.toNat := by rw [hln]; exact c22
      refine GC.seq ?_
      refine GC.reg ?_
      refine GL.val (rv_to (v' := .agg (dcell dz0).toArray) (rv_buildS pl_26 zb_26 rfl rfl rfl) rfl) rfl ?_
      refine GL.step (ot_store (k := 0) rfl rfl rfl rfl sz_26 rfl rfl (show repl _ 0 (dcell dz0) = dcell dz0 from rfl) ?_)
      refine GL.val (rv_assign rfl) rfl ?_
      refine GL.nil ?_
      refine GX.then ?_
      refine GC.ret ?_
      refine GX.then_ret ?_
      refine GX.ret2 rfl (RR.cell ag_26 rfl (by exact Hd.cellsAll (k := 0) rfl) (by exact sz_26)) (RR.tmp rfl) ?_
      exact fun w9 h => ⟨(dz0, []), (by rw [prune_no hck hfu] <;> rfl), by
          have h := h.sel [] rfl rfl
          have h := (h.take 0).frzN0
          exact h, ⟨by rw [prune_no hck hfu] <;> rfl, dz0_fx _ _, dz0_ok⟩⟩
    · have hfu : ¬ (to.toNat < 1 ∨ (dpl d).1.length < to.toNat) := by rw [hln]; exact c22
      refine GC.skip ?_
      refine GX.then ?_
      refine GC.seq ?_
      refine GC.reg ?_
      refine GL.val (rv_field fo_26_2 rfl rfl) rfl ?_
      refine GL.val (rv_load ag_24 rfl (Hd.cell (k := 1) rfl rfl)) rfl ?_
      refine GL.val (rv_move rfl) rfl ?_
      refine GL.val (rv_maxU rfl rfl) rfl ?_
      refine GL.val (rv_field fo_26_2 rfl rfl) rfl ?_
      refine GL.step (ot_store (k := 1) rfl rfl rfl rfl sz_24 rfl rfl (show repl (dcell d) 2 [v64 (if d.2.2.toNat < to.toNat then to else d.2.2)] = dcell (d.1, d.2.1, (if d.2.2.toNat < to.toNat then to else d.2.2)) from rfl) ?_)
      refine GL.nil ?_
      refine GX.then ?_
      refine GC.seq ?_
      refine GC.reg ?_
      refine GL.val (rv_loadA ag_26 rfl (Hd.cells (k := 1) rfl (us := dcell (d.1, d.2.1, (if d.2.2.toNat < to.toNat then to else d.2.2))) rfl) (by exact sz_26)) rfl ?_
      refine GL.step (ot_call hb_38 rfl (callOk fun w hh => own_c (d.1, d.2.1, (if d.2.2.toNat < to.toNat then to else d.2.2)) w (hD.lift hh) hok (ckP_keys (d := d) hck)) rfl fun g30 h30 => ?_)
      refine GL.step (ot_store (k := 1) rfl rfl rfl rfl sz_26 rfl rfl (show repl _ 0 (dcell g30.1) = dcell g30.1 from rfl) ?_)
      refine GL.val (rv_assign rfl) rfl ?_
      refine GL.nil ?_
      refine GX.then ?_
      refine GC.ret ?_
      obtain ⟨hp30, hs30, ho30⟩ := h30
      refine GX.ret2 rfl (RR.cell ag_26 rfl (by exact Hd.cellsAll (k := 1) rfl) (by exact sz_26)) (RR.tmp rfl) ?_
      exact fun w9 h => ⟨g30, (by rw [prune_ok hck hfu]), by
          have h := h.sel [0] rfl rfl
          exact h, ⟨by rw [prune_ok hck hfu, hp30]; rfl, hs30.up, ho30⟩⟩
end Go.Proofs.Ytkifeeiafachpaa
