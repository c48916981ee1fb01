import Derived.Test.YtkifeeiafachpaaF
set_option linter.unusedVariables false
set_option linter.unusedSimpArgs false
namespace Go.Proofs.Ytkifeeiafachpaa
open Go Go.RowKit Go.Bz
theorem ag_27 : aggB Try.prog 27 = some false := by kernel_rfl
theorem as_111 : arrSz Try.prog 111 = some (8, 1) := by kernel_rfl
theorem es_105 : elemSz Try.prog 105 = some 1 := by kernel_rfl
theorem zb_111 : zeroB Try.prog 111 = some (.agg #[.int .u8 0, .int .u8 0, .int .u8 0, .int .u8 0, .int .u8 0, .int .u8 0, .int .u8 0, .int .u8 0]) := by kernel_rfl
theorem zb_5 : zeroB Try.prog 5 = some (.int .u8 0) := by kernel_rfl
variable {X : Cx} {L : List (Nat × Value)} {Fs : List Pc} {C : List (Nat × Value) → List Pc → Prop} {gd : Option (Nat × Bool)} {ty : TypeId} {x y : Operand} {pos : String} {af : Array Edge}
/-- append onto a slice without room, which is read alone: its elements and the new ones lie in new memory, or nothing is appended -/
theorem ot_appendCut {d k t E sz by_ nn m c b o r : Nat} {A : Option Addr} {olds news ys : List Value} (hE : elemInfo X.P t = some (E, sz, by_)) (ex : ev L x = some (.slice (some ⟨b, o, none⟩) nn nn)) (ey : ev L y = some (.slice A m c))
    (hk : Fs[k]? = some (roP (some ⟨b, o, none⟩) olds)) (hol : olds.length = nn * sz) (hon : olds ≠ []) (hnews : ∀ w, Hd X.K X.w0 w Fs → SlR w A news) (hl : news.length = m * sz) (hb : (nn + m) * by_ ≤ 140737488355328) (hby : 0 < by_) (hsz0 : 0 < sz) (hd : Nat.ble (d + 1) X.n = true) (hr : nn + m = r) (hys : olds ++ news = ys)
    (h : ∀ b' o' c', r ≤ c' → C ((d, .slice (some ⟨b', o', none⟩) r c') :: L) (Fs.set k (roP (some ⟨b', o', none⟩) ys))) :
    OT X ⟨some d, .call { callee := .builtin .append, args := #[x, y], argTypes := #[t, t] }, ty, pos, af, gd⟩ L Fs C :=
  ot_eff (γ := Nat × Nat × Nat) (Φ := fun g => r ≤ g.2.2) (v := fun g => .slice (some ⟨g.1, g.2.1, none⟩) r g.2.2) (H := fun g => Fs.set k (roP (some ⟨g.1, g.2.1, none⟩) ys)) (fun w a hs hf => by
    subst hr hys
    obtain ⟨inf, z, hu, hi, hz, hsz, hby', hzs, hpos⟩ := elemInfo_spec hE
    have ho := (hs.hd.ro hk).resolve_left hon
    obtain ⟨b1, o1, e1, hC⟩ := ho
    cases e1
    by_cases hm : m = 0
    · subst hm
      have hn : news = [] := List.eq_nil_of_length_eq_zero (by simpa using hl)
      subst hn
      refine ⟨(b, o, nn), w, ?_, by simpa using hs.weak hk (fun S hA hb => ⟨S, hA, fun _ h => h⟩), by simp⟩
      have hlen : (Builtin.append_ #[t, t] ty #[.slice (some ⟨b, o, none⟩) nn nn, .slice A 0 c]).run X.P w = .ok (.slice (some ⟨b, o, none⟩) nn nn) w := by
        cases A <;> simp [Builtin.append_, run_underlying hu, sizeOf, typeInfo, hi, Builtin.lenOf, Builtin.firstCells, loadCells, loadCellsFrom, storeCells, go_sem]
      simp only [execOp, resolve, List.map_toArray, List.map_cons, List.map_nil, hf.ev ex, hf.ev ey, invoke, builtin, Sem.run_bind, Sem.run_pure, Result.andThen_ok, hlen]
      rfl
    · have hne : news ≠ [] := fun e => by
        subst e
        have : m * sz = 0 := by simpa using hl.symm
        rcases Nat.mul_eq_zero.1 this with h | h <;> omega
      obtain ⟨b2, o2, rfl, hN⟩ := (hnews w hs.hd).resolve_left hne
      have hmax : nn + m ≤ maxLen := by
        have : nn + m ≤ (nn + m) * by_ := Nat.le_mul_of_pos_right _ hby
        unfold maxLen; omega
      obtain ⟨v', w', hrun, hown, hgr⟩ := run_append_arg_grows (P := X.P) w t ty E inf z sz by_ hu hi hz hsz hby' hzs hpos ⟨b, o, none⟩ nn nn olds hol (fun j u hj => by rw [addr_add]; exact hC j u hj) ⟨b2, o2, none⟩ m c news hl (fun j u hj => by rw [addr_add]; exact hN j u hj) (by omega) hmax hb
      obtain ⟨g, cap, rfl, hg1, hg2⟩ := hown.form (by omega)
      have hcap : nn + m ≤ cap := by
        rcases hown.2 with ⟨h1, _⟩ | ⟨g', cap', cur, h1, _, _, h3, _⟩
        · cases h1
        · simp only [Value.slice.injEq] at h1; omega
      refine ⟨(g, 0, cap), w', ?_, hs.upd1 hk fun S hA hb => ⟨fun q => q = g, .inr ⟨g, 0, rfl, fun j u hj => ?_, fun q => Iff.rfl⟩, (Upd.of_grownBy hgr).mono fun q hq _ => by simp at hq, fun q hq => .inr (by subst hq; exact ⟨hg1, hg2⟩)⟩, hcap⟩
      · simp only [execOp, resolve, List.map_toArray, List.map_cons, List.map_nil, hf.ev ex, hf.ev ey, invoke, builtin, Sem.run_bind, Sem.run_pure, Result.andThen_ok, hrun]
      · have := hown.cells (g := g) rfl j u hj
        rwa [addr_add] at this) hd fun g hg => h g.1 g.2.1 g.2.2 hg
/-- texts, as they lie -/
abbrev Sp := Sh.B × (Option Addr × Nat)
def scell (q : Sp) : Value := .slice q.2.1 q.1.length q.2.2
def sls (ps : List Sp) : List Value := ps.map scell
def cat (ps : List Sp) : Sh.B := ps.flatMap (·.1)
theorem sls_len (ps : List Sp) : (sls ps).length = ps.length := by simp [sls]
theorem sls_one (ps : List Sp) : (sls ps).all Value.oneCell' = true := by simp [sls, scell, Value.oneCell']
theorem cat_step (ps : List Sp) (j : Nat) (h : j < ps.length) : cat (ps.take (j + 1)) = cat (ps.take j) ++ ps[j].1 := by
  unfold cat; rw [List.take_succ_eq_append_getElem h, List.flatMap_append]; simp only [List.flatMap_cons, List.flatMap_nil, List.append_nil]
theorem cat_le (ps : List Sp) (j : Nat) : (cat (ps.take j)).length ≤ (cat ps).length := by
  have h : cat ps = cat (ps.take j) ++ cat (ps.drop j) := by unfold cat; rw [← List.flatMap_append, List.take_append_drop]
  rw [h, List.length_append]; omega
theorem sHead {w : World} {A : Option Addr} {ps : List Sp} (h : SlR w A (sls ps)) : ps.length = 0 ∨ ∃ b o, A = some ⟨b, o, none⟩ ∧ Cells w b o (sls ps) := h.imp (fun e => by have := congrArg List.length e; simpa [sls_len] using this) id
theorem sAt {w : World} {b o j : Nat} {ps : List Sp} (hC : Cells w b o (sls ps)) (h : j < ps.length) : w.cell? ⟨b, o + j, none⟩ = some (.slice ps[j].2.1 ps[j].1.length ps[j].2.2) := hC j _ (by simp [sls, scell, h])
/-- a number's eight bytes -/
def numTo (n : UInt64) : Nat → Sh.B
  | 0 => List.replicate 8 0
  | i + 1 => (numTo n i).set i (n >>> UInt64.ofNat (56 - 8 * i)).toUInt8
theorem numTo_len (n : UInt64) : ∀ i, (numTo n i).length = 8
  | 0 => by simp [numTo]
  | i + 1 => by unfold numTo; rw [List.length_set]; exact numTo_len n i
def num (n : UInt64) : Sh.B := numTo n 8
theorem num_len (n : UInt64) : (num n).length = 8 := numTo_len n 8
/-- the same, from the last one on -/
def rnumTo (n : UInt64) : Nat → Sh.B × UInt64
  | 0 => (List.replicate 8 0, n)
  | i + 1 => (((rnumTo n i).1).set (7 - i) ((rnumTo n i).2 % 256).toUInt8, (rnumTo n i).2 / 256)
theorem rnumTo_len (n : UInt64) : ∀ i, (rnumTo n i).1.length = 8
  | 0 => by simp [rnumTo]
  | i + 1 => by unfold rnumTo; dsimp only; rw [List.length_set]; exact rnumTo_len n i
theorem shr_byte (n a : UInt64) (k : Nat) (hk : k ≤ 7) (ha : a.toNat = n.toNat / 2 ^ (8 * k)) : (a % 256).toUInt8 = (n >>> UInt64.ofNat (8 * k)).toUInt8 := by
  apply UInt8.toNat_inj.1
  have e : (UInt64.ofNat (8 * k)).toNat % 64 = 8 * k := by rw [UInt64.toNat_ofNat']; omega
  rw [UInt64.toNat_toUInt8, UInt64.toNat_toUInt8, UInt64.toNat_mod, UInt64.toNat_shiftRight, e, Nat.shiftRight_eq_div_pow, ha]
  show n.toNat / 2 ^ (8 * k) % 256 % 2 ^ 8 = _
  omega
theorem rnum_div (n : UInt64) : ∀ k, (rnumTo n k).2.toNat = n.toNat / 2 ^ (8 * k)
  | 0 => by simp [rnumTo]
  | k + 1 => by
    show ((rnumTo n k).2 / 256).toNat = _
    rw [UInt64.toNat_div, rnum_div n k]
    show n.toNat / 2 ^ (8 * k) / 256 = _
    rw [Nat.div_div_eq_div_mul, show 8 * (k + 1) = 8 * k + 8 by omega, Nat.pow_add]
theorem rnum_num (n : UInt64) : (rnumTo n 8).1 = num n := by
  have h : ∀ k, k ≤ 7 → ((rnumTo n k).2 % 256).toUInt8 = (n >>> UInt64.ofNat (8 * k)).toUInt8 := fun k hk => shr_byte n _ k hk (rnum_div n k)
  have e : (rnumTo n 8).1 = [((rnumTo n 7).2 % 256).toUInt8, ((rnumTo n 6).2 % 256).toUInt8, ((rnumTo n 5).2 % 256).toUInt8, ((rnumTo n 4).2 % 256).toUInt8, ((rnumTo n 3).2 % 256).toUInt8, ((rnumTo n 2).2 % 256).toUInt8, ((rnumTo n 1).2 % 256).toUInt8, ((rnumTo n 0).2 % 256).toUInt8] := rfl
  rw [e, h 7 (by omega), h 6 (by omega), h 5 (by omega), h 4 (by omega), h 3 (by omega), h 2 (by omega), h 1 (by omega), h 0 (by omega)]
  rfl
set_option maxRecDepth 100000 in
set_option maxHeartbeats 1000000 in
theorem begin_c (s : UInt8) (A : Option Addr) (n c : Nat) (ps : List Sp) (w : World) (hR : SlR w A (sls ps)) (hP : ∀ q ∈ ps, SlR w q.2.1 (byts q.1)) (hn : ps.length = n) (hnb : n ≤ 1099511627776) (hbig : (cat ps).length ≤ 1099511627776) :
    Calls Try.prog 68 [v8 s, .slice A n c].toArray w fun e w' => ∃ g : Nat × Nat × Nat, e = .returned (.slice (some ⟨g.1, g.2.1, none⟩) (1 + (cat ps).length) g.2.2) ∧ St noB w w' [roP (some ⟨g.1, g.2.1, none⟩) (byts (s :: cat ps))] ∧ 1 + (cat ps).length ≤ g.2.2 := by
  refine GC.calls Try.func68 rfl rfl (St.begin _) ?_
  subst hn
  have HA := sHead hR
  refine GC.seq ?_
  refine GC.reg ?_
  refine GL.val (rv_assign rfl) rfl ?_
  refine GL.nil ?_
  refine GX.then ?_
  refine GC.seq ?_
  refine GC.reg ?_
  refine GL.val (rv_move rfl) rfl ?_
  refine GL.step (ot_buildSlice ei_27 rfl rfl rfl rfl rfl rfl fun b9 => ?_)
  refine GL.st (Fs' := _) (fun w9 h => by
    have h := h.sel [0] rfl rfl
    have h := (h.clRow (k := 0) (n' := 1) (sz := 1) rfl rfl (by omega)).rowRo (k := 0) rfl
    exact h) ?_
  refine GL.val (rv_assign rfl) rfl ?_
  refine GL.nil ?_
  refine GX.then ?_
  refine GC.seq ?_
  refine GC.seq ?_
  refine GC.reg ?_
  refine GL.val (rv_move rfl) rfl ?_
  refine GL.val (rv_lenSl Try.underlying105 rfl) rfl ?_
  refine GL.val (rv_move rfl) rfl ?_
  refine GL.nil ?_
  refine GX.then ?_
  refine GC.block ?_
  refine GC.loopK (γ := Nat × Nat × Nat × Nat) [11, 10] [] (fun g Lk => (5, .slice (some ⟨g.2.1, g.2.2.1, none⟩) (1 + (cat (ps.take g.1)).length) g.2.2.2) :: (12, .int .i64 (g.1 : Int)) :: Lk) (fun g Fk => roP (some ⟨g.2.1, g.2.2.1, none⟩) (byts (s :: cat (ps.take g.1))) :: Fk) (fun g => (g.1 ≤ ps.length) ∧ (1 + (cat (ps.take g.1)).length ≤ g.2.2.2)) (fun g => ps.length - g.1) (0, b9, 0, 1) rfl rfl ⟨Nat.zero_le _, Nat.le_refl _⟩ (by repeat (first | exact Sub.nil | refine Sub.cons rfl ?_)) (fun w9 h => by
      exact h) (fun ⟨j, bb, oo, cc⟩ ⟨hj, hcc⟩ => ?_)
  dsimp only at hj hcc ⊢
  refine GC.seq ?_
  refine GC.reg ?_
  refine GL.val (rv_lss rfl rfl) rfl ?_
  refine GL.nil ?_
  refine GX.then ?_
  refine GC.seq ?_
  refine GC.condP rfl (fun c13 => ?_) (fun c13 => ?_)
  · have hlt : j < ps.length := by omega
    obtain ⟨b, o, rfl, hC⟩ := HA.resolve_left (by omega)
    refine GC.skip ?_
    refine GX.then ?_
    refine GC.seq ?_
    refine GC.block ?_
    refine GC.seq ?_
    refine GC.reg ?_
    refine GL.val (rv_elemJ (q := o + j) j es_105 rfl rfl rfl (by omega) (by omega)) rfl ?_
    refine GL.val (rv_load ag_27 rfl (Hd.cell0 (sAt hC hlt) (fun h => h))) rfl ?_
    refine GL.val (rv_assign rfl) rfl ?_
    refine GL.nil ?_
    refine GX.then ?_
    refine GC.reg ?_
    refine GL.val (rv_move rfl) rfl ?_
    refine GL.val (rv_move rfl) rfl ?_
    refine GL.val (rv_lenSl Try.underlying27 rfl) rfl ?_
    refine GL.val (rv_move rfl) rfl ?_
    refine GL.val (rv_lenSl Try.underlying27 rfl) rfl ?_
    refine GL.val (rv_to (v' := .slice (some ⟨bb, oo, none⟩) (1 + (cat (ps.take j)).length) (1 + (cat (ps.take j)).length)) (rv_sl es_27 rfl rfl rfl rfl rfl 0 _ _ rfl rfl rfl (by omega) (by omega) (by omega)) (by rw [sAddr_zero]; rfl)) rfl ?_
    refine GL.val (rv_move rfl) rfl ?_
    refine GL.step (ot_appendCut (k := 0) (r := 1 + (cat (ps.take (j + 1))).length) (ys := byts (s :: cat (ps.take (j + 1)))) (news := byts ps[j].1) ei_27 rfl rfl rfl (by simp [byts]; omega) (by simp [byts]) (fun w h => h.rd0n (hP _ (List.getElem_mem hlt))) (by rw [byts_len, Nat.mul_one]) (by have := cat_le ps (j + 1); rw [cat_step ps j hlt, List.length_append] at this; omega) (by decide) (by decide) rfl (by rw [cat_step ps j hlt, List.length_append]; omega) (by rw [cat_step ps j hlt]; simp [byts]) fun b23 o23 c23 h23 => ?_)
    refine GL.val (rv_assign rfl) rfl ?_
    refine GL.nil ?_
    refine GX.blk ?_
    refine GX.then ?_
    refine GC.reg ?_
    refine GL.val (rv_add rfl rfl (by omega) (by omega)) rfl ?_
    refine GL.val (rv_move rfl) rfl ?_
    refine GL.nil ?_
    exact GX.round (j + 1, b23, o23, c23) (by dsimp only; omega) ⟨by dsimp only; omega, h23⟩ (by repeat (first | exact Sub.nil | refine Sub.cons rfl ?_)) (fun w9 h => by
        exact h)
  · obtain rfl : j = ps.length := by omega
    rw [List.take_of_length_le (Nat.le_refl _)] at hcc ⊢
    refine GC.exit ?_
    refine GX.then_exit ?_
    refine GX.then_exit ?_
    refine GX.blk_eq ?_
    refine GX.then ?_
    refine GC.seq ?_
    refine GC.reg ?_
    refine GL.val (rv_move rfl) rfl ?_
    refine GL.val (rv_assign rfl) rfl ?_
    refine GL.nil ?_
    refine GX.then ?_
    refine GC.ret ?_
    refine GX.ret1 rfl (RR.tmp rfl) ?_
    exact fun w9 h => ⟨(bb, oo, cc), rfl, by
        exact h, hcc⟩
set_option maxRecDepth 100000 in
set_option maxHeartbeats 1000000 in
theorem number_c (n : UInt64) (w : World) : Calls Try.prog 69 [v64 n].toArray w fun e w' => ∃ g : Nat, e = .returned (.slice (some ⟨g, 0, none⟩) 8 8) ∧ St noB w w' [roP (some ⟨g, 0, none⟩) (byts (num n))] ∧ True := by
  refine GC.calls Try.func69 rfl rfl (St.begin _) ?_
  refine GC.seq ?_
  refine GC.reg ?_
  refine GL.val (rv_assign rfl) rfl ?_
  refine GL.nil ?_
  refine GX.then ?_
  refine GC.seq ?_
  refine GC.reg ?_
  refine GL.step (ot_alloc (zs := ws8 (List.replicate 8 0)) zb_111 (rfl) rfl fun b3 => ?_)
  refine GL.nil ?_
  refine GX.then ?_
  refine GC.seq ?_
  refine GC.seq ?_
  refine GC.reg ?_
  refine GL.val (rv_move rfl) rfl ?_
  refine GL.nil ?_
  refine GX.then ?_
  refine GC.block ?_
  refine GC.loopK (γ := Nat) [3, 0] [] (fun g Lk => (5, .int .i64 (g : Int)) :: Lk) (fun g Fk => .cl b3 (ws8 (numTo n g)) 111 :: Fk) (fun g => g ≤ 8) (fun g => 8 - g) (0) rfl rfl (Nat.zero_le _) (by repeat (first | exact Sub.nil | refine Sub.cons rfl ?_)) (fun w9 h => by
      exact h) (fun i hi => ?_)
  skip
  refine GC.seq ?_
  refine GC.reg ?_
  refine GL.val (rv_lss rfl rfl) rfl ?_
  refine GL.nil ?_
  refine GX.then ?_
  refine GC.seq ?_
  refine GC.condP rfl (fun c6 => ?_) (fun c6 => ?_)
  · have hlt : i < 8 := by omega
    refine GC.skip ?_
    refine GX.then ?_
    refine GC.seq ?_
    refine GC.block ?_
    refine GC.seq ?_
    refine GC.reg ?_
    refine GL.val (rv_move rfl) rfl ?_
    refine GL.val (rv_assign rfl) rfl ?_
    refine GL.nil ?_
    refine GX.then ?_
    refine GC.reg ?_
    refine GL.val (rv_move rfl) rfl ?_
    refine GL.val (rv_move rfl) rfl ?_
    refine GL.val (rv_move rfl) rfl ?_
    refine GL.val (rv_mulI rfl rfl (by omega) (by omega)) rfl ?_
    refine GL.val (rv_sub rfl rfl (by omega) (by omega)) rfl ?_
    refine GL.val (rv_shr64 (56 - 8 * i) rfl rfl (by omega) (by omega)) rfl ?_
    refine GL.val (rv_c64_8 Try.underlying24 Try.underlying5 rfl) rfl ?_
    refine GL.val (rv_elemAJ (q := i) (i) as_111 rfl rfl (by rfl) (by omega) (by omega)) rfl ?_
    refine GL.step (ot_store1 (k := 0) rfl rfl rfl rfl (by exact sz_5) rfl (by rw [ws8_len, numTo_len]; omega) (ws8_set _ _ _) ?_)
    refine GL.nil ?_
    refine GX.blk ?_
    refine GX.then ?_
    refine GC.reg ?_
    refine GL.val (rv_add rfl rfl (by omega) (by omega)) rfl ?_
    refine GL.val (rv_move rfl) rfl ?_
    refine GL.nil ?_
    exact GX.round (i + 1) (by omega) (by omega) (by repeat (first | exact Sub.nil | refine Sub.cons rfl ?_)) (fun w9 h => by
        exact h)
  · obtain rfl : i = 8 := by omega
    refine GC.exit ?_
    refine GX.then_exit ?_
    refine GX.then_exit ?_
    refine GX.blk_eq ?_
    refine GX.then ?_
    refine GC.seq ?_
    refine GC.reg ?_
    refine GL.val (rv_slA (E := 5) as_111 rfl rfl rfl (0) (8) (0) (by rfl) (by rfl) (by decide) (by decide) (by decide) (by rfl)) rfl ?_
    refine GL.val (rv_assign rfl) rfl ?_
    refine GL.nil ?_
    refine GX.then ?_
    refine GC.ret ?_
    refine GX.ret1 rfl (RR.tmp rfl) ?_
    exact fun w9 h => ⟨b3, rfl, by
        have h := (h.clRow (k := 0) (n' := 8) (sz := 1) rfl (by rw [ws8_len, numTo_len]) (by omega)).rowRo (k := 0) rfl
        exact h, trivial⟩
set_option maxRecDepth 100000 in
set_option maxHeartbeats 1000000 in
theorem rnumber_c (n : UInt64) (w : World) : Calls Try.prog 73 [v64 n].toArray w fun e w' => ∃ g : Nat, e = .returned (.slice (some ⟨g, 0, none⟩) 8 8) ∧ St noB w w' [roP (some ⟨g, 0, none⟩) (byts (num n))] ∧ True := by
  refine GC.calls Try.func73 rfl rfl (St.begin _) ?_
  refine GC.seq ?_
  refine GC.reg ?_
  refine GL.val (rv_assign rfl) rfl ?_
  refine GL.nil ?_
  refine GX.then ?_
  refine GC.seq ?_
  refine GC.reg ?_
  refine GL.step (ot_make (m := 8) (zs := byts (List.replicate 8 0)) ei_27 zb_5 rfl rfl rfl (by decide) (by decide) rfl rfl fun b5 => ?_)
  refine GL.val (rv_assign rfl) rfl ?_
  refine GL.nil ?_
  refine GX.then ?_
  refine GC.seq ?_
  refine GC.seq ?_
  refine GC.reg ?_
  refine GL.val (rv_assign rfl) rfl ?_
  refine GL.nil ?_
  refine GX.then ?_
  refine GC.block ?_
  refine GC.loopK (γ := Nat) [3] [] (fun g Lk => (0, v64 (rnumTo n g).2) :: (4, .int .i64 (7 - (g : Int))) :: Lk) (fun g Fk => .row (some ⟨b5, 0, none⟩) 8 5 1 8 (byts (rnumTo n g).1) :: Fk) (fun g => g ≤ 8) (fun g => 8 - g) (0) rfl rfl (Nat.zero_le _) (by repeat (first | exact Sub.nil | refine Sub.cons rfl ?_)) (fun w9 h => by
      exact h) (fun k hk => ?_)
  skip
  refine GC.seq ?_
  refine GC.seq ?_
  refine GC.reg ?_
  refine GL.val (rv_move rfl) rfl ?_
  refine GL.val (rv_geq rfl rfl) rfl ?_
  refine GL.nil ?_
  refine GX.then ?_
  refine GC.condP rfl (fun c7 => ?_) (fun c7 => ?_)
  · have hlt : k < 8 := by omega
    refine GC.skip ?_
    refine GX.then ?_
    refine GC.seq ?_
    refine GC.block ?_
    refine GC.seq ?_
    refine GC.reg ?_
    refine GL.val (rv_move rfl) rfl ?_
    refine GL.val (rv_move rfl) rfl ?_
    refine GL.val (rv_move rfl) rfl ?_
    refine GL.val (rv_rem64 (b := 256) rfl rfl (by decide)) rfl ?_
    refine GL.val (rv_c64_8 Try.underlying24 Try.underlying5 rfl) rfl ?_
    refine GL.val (rv_elemJ (q := 7 - k) (7 - k) es_27 rfl rfl (by omega) (by omega) (by omega)) rfl ?_
    refine GL.step (ot_storeRow (k := 0) rfl rfl rfl rfl (by exact sz_5) rfl (by rw [byts_len, rnumTo_len]; omega) (by rw [byts_ws, ws8_set]) ?_)
    refine GL.nil ?_
    refine GX.then ?_
    refine GC.reg ?_
    refine GL.val (rv_move rfl) rfl ?_
    refine GL.val (rv_quo64 (b := 256) rfl rfl (by decide)) rfl ?_
    refine GL.val (rv_assign rfl) rfl ?_
    refine GL.nil ?_
    refine GX.blk ?_
    refine GX.then ?_
    refine GC.reg ?_
    refine GL.val (rv_move rfl) rfl ?_
    refine GL.val (rv_sub rfl rfl (by omega) (by omega)) rfl ?_
    refine GL.val (rv_assign rfl) rfl ?_
    refine GL.nil ?_
    exact GX.round (k + 1) (by omega) (by omega) (by rw [show (7 : Int) - ((k + 1 : Nat) : Int) = 7 - (k : Int) - 1 by omega]; exact (by repeat (first | exact Sub.nil | refine Sub.cons rfl ?_))) (fun w9 h => by
        exact h)
  · obtain rfl : k = 8 := by omega
    rw [rnum_num]
    refine GC.exit ?_
    refine GX.then_exit ?_
    refine GX.then_exit ?_
    refine GX.blk_eq ?_
    refine GX.then ?_
    refine GC.seq ?_
    refine GC.reg ?_
    refine GL.val (rv_move rfl) rfl ?_
    refine GL.val (rv_assign rfl) rfl ?_
    refine GL.nil ?_
    refine GX.then ?_
    refine GC.ret ?_
    refine GX.ret1 rfl (RR.tmp rfl) ?_
    exact fun w9 h => ⟨b5, rfl, by
        have h := h.rowRo (k := 0) rfl
        exact h, trivial⟩
end Go.Proofs.Ytkifeeiafachpaa
