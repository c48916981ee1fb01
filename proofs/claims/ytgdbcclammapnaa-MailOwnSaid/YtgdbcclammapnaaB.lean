import Derived.Test.YtgdbcclammapnaaA
set_option linter.unusedVariables false
set_option linter.unusedSimpArgs false
namespace Go.Proofs.Ytgdbcclammapnaa
open Go Go.RowKit Go.Bz
theorem fo_25_0 : fieldOff Try.prog 25 0 = some 0 := by kernel_rfl
theorem hb_20 : hasBody Try.prog 20 = true := by kernel_rfl
theorem hb_21 : hasBody Try.prog 21 = true := by kernel_rfl
theorem mo_ : Try.prog.follows .mixedOrders = true := by kernel_rfl
set_option maxRecDepth 100000 in
set_option maxHeartbeats 1000000 in
theorem deleteP_c (b c n i j : Nat) (xs : List Value) (w : World) (S : Nat → Prop) (hA : (Pc.row (some ⟨b, 0, none⟩) c 25 3 n xs).A S w) (hb : ∀ b, S b → b < w.heap.size) (hij : i ≤ j) (hj : j ≤ n) (h1 : xs.all Value.oneCell' = true) :
    Calls Try.prog 24 [.slice (some ⟨b, 0, none⟩) n c, .int .i64 (i : Int), .int .i64 (j : Int)].toArray w fun e w' => ∃ _g : Unit, e = .returned (.slice (some ⟨b, 0, none⟩) (n - (j - i)) c) ∧
      St S w w' [.row (some ⟨b, 0, none⟩) c 25 3 (n - (j - i)) (xs.take (i * 3) ++ xs.drop (j * 3))] ∧ True := by
  refine GC.calls Try.func24 rfl rfl (St.begin1 hA hb) ?_
  refine GC.rowForm (k := 0) rfl fun hx hc _ => ?_
  refine GC.seq ?_
  refine GC.reg ?_
  refine GL.val (rv_assign rfl) rfl ?_
  refine GL.nil ?_
  refine GX.then ?_
  refine GC.seq ?_
  refine GC.reg ?_
  refine GL.val (rv_move rfl) rfl ?_
  refine GL.val (rv_move rfl) rfl ?_
  refine GL.val (rv_move rfl) rfl ?_
  refine GL.val (rv_move rfl) rfl ?_
  refine GL.val (rv_lenSl Try.underlying22 rfl) rfl ?_
  refine GL.val (rv_sl es_22 rfl rfl rfl rfl rfl i j n rfl rfl rfl (by omega) (by omega) (by omega)) rfl ?_
  refine GL.nil ?_
  refine GX.then ?_
  refine GC.seq ?_
  refine GC.seq ?_
  refine GC.reg ?_
  refine GL.val (rv_move rfl) rfl ?_
  refine GL.val (rv_move rfl) rfl ?_
  refine GL.val (rv_eqI rfl rfl) rfl ?_
  refine GL.nil ?_
  refine GX.then ?_
  first | refine GC.condP rfl (fun c1 => ?_) (fun c1 => ?_) | refine GC.cond rfl (fun c1 => ?_) (fun c1 => ?_)
  · refine GC.seq ?_
    refine GC.reg ?_
    refine GL.val (rv_move rfl) rfl ?_
    refine GL.val (rv_assign rfl) rfl ?_
    refine GL.nil ?_
    refine GX.then ?_
    refine GC.ret ?_
    refine GX.then_ret ?_
    refine GX.ret1 rfl (RR.tmp rfl) ?_
    have e : i = j := by omega
    subst e
    exact fun w h => ⟨(), by simp, by simpa using h, trivial⟩
  · refine GC.skip ?_
    refine GX.then ?_
    refine GC.seq ?_
    refine GC.reg ?_
    refine GL.val (rv_move rfl) rfl ?_
    refine GL.val (rv_lenSl Try.underlying22 rfl) rfl ?_
    refine GL.val (rv_assign rfl) rfl ?_
    refine GL.nil ?_
    refine GX.then ?_
    refine GC.seq ?_
    refine GC.draw 8 [] mo_ ?_
    refine GD.pure (i := 0) rfl (fun _ _ => rv_move rfl) (by kernel_rfl) (by repeat (first | exact noPanicPut_body | exact noPanicPut_cut | exact noPanicPut_cutE | refine noPanicPut_then ?_ | refine noPanicPut_blk ?_)) ?_
    refine GD.pure (i := 1) rfl (fun _ _ => rv_move rfl) (by kernel_rfl) (by repeat (first | exact noPanicPut_body | exact noPanicPut_cut | exact noPanicPut_cutE | refine noPanicPut_then ?_ | refine noPanicPut_blk ?_)) ?_
    refine GD.pure (i := 2) rfl (fun _ _ => rv_slTo es_22 rfl rfl i rfl (by omega)) (by kernel_rfl) (by repeat (first | exact noPanicPut_body | exact noPanicPut_cut | exact noPanicPut_cutE | refine noPanicPut_then ?_ | refine noPanicPut_blk ?_)) ?_
    refine GD.pure (i := 3) rfl (fun _ _ => rv_move rfl) (by kernel_rfl) (by repeat (first | exact noPanicPut_body | exact noPanicPut_cut | exact noPanicPut_cutE | refine noPanicPut_then ?_ | refine noPanicPut_blk ?_)) ?_
    refine GD.pure (i := 4) rfl (fun _ _ => rv_move rfl) (by kernel_rfl) (by repeat (first | exact noPanicPut_body | exact noPanicPut_cut | exact noPanicPut_cutE | refine noPanicPut_then ?_ | refine noPanicPut_blk ?_)) ?_
    refine GD.pure (i := 5) rfl (fun _ _ => rv_slFrom es_22 rfl rfl j rfl (by omega) (by omega)) (by kernel_rfl) (by repeat (first | exact noPanicPut_body | exact noPanicPut_cut | exact noPanicPut_cutE | refine noPanicPut_then ?_ | refine noPanicPut_blk ?_)) ?_
    refine GD.step (i := 6) (by kernel_rfl) rfl (ot_appendIn (k := 0) (news := xs.drop (j * 3)) ei_22 rfl rfl rfl (fun w h => (Nat.eq_zero_or_pos (n - j)).imp id fun hp => ⟨b, 0 + j * 3, sAddr_lt (by omega), Hd.rowFrom (k := 0) rfl w h⟩) (by simp [hx, Nat.sub_mul]) (one_drop h1 _) (by omega) (by omega) hx rfl ⟨.inr fun _ h => h.pk [], ?_⟩)
    refine GD.pure (i := 7) rfl (fun _ _ => rv_assign rfl) (by kernel_rfl) (by repeat (first | exact noPanicPut_body | exact noPanicPut_cut | exact noPanicPut_cutE | refine noPanicPut_then ?_ | refine noPanicPut_blk ?_)) ?_
    refine GD.done (by kernel_rfl) ?_
    refine GX.then ?_
    refine GC.seq ?_
    refine GC.reg ?_
    refine GL.val (rv_move rfl) rfl ?_
    refine GL.val (rv_move rfl) rfl ?_
    refine GL.val (rv_lenSl Try.underlying22 rfl) rfl ?_
    refine GL.val (rv_move rfl) rfl ?_
    refine GL.val (rv_sl es_22 rfl rfl rfl rfl rfl (i + (n - j)) n c rfl rfl rfl (by omega) (by omega) (by omega)) rfl ?_
    refine GL.step (ot_clear (k := 0) (l := i + (n - j)) ei_22 zb_25 rfl rfl ((Nat.eq_zero_or_pos (n - (i + (n - j)))).imp id fun hp => by rw [sAddr_lt (by omega), Nat.zero_add]) (by omega) (by simp; omega) rfl ?_)
    refine GL.nil ?_
    refine GX.then ?_
    refine GC.seq ?_
    refine GC.reg ?_
    refine GL.val (rv_move rfl) rfl ?_
    refine GL.val (rv_assign rfl) rfl ?_
    refine GL.nil ?_
    refine GX.then ?_
    refine GC.ret ?_
    refine GX.ret1 rfl (RR.tmp rfl) ?_
    exact fun w h => ⟨(), by congr 2; omega, by simpa using h.rowCut (k := 0) (m := n - (j - i)) (ys := xs.take (i * 3) ++ xs.drop (j * 3)) rfl (by omega) (by rw [show n - (j - i) = i + (n - j) by omega]; exact del_eq _ _ _ _ (Nat.mul_le_mul_right _ hij) (by rw [hx]; exact Nat.mul_le_mul_right _ hj) (by rw [hx, ← Nat.sub_mul, ← Nat.add_mul])), trivial⟩
set_option maxRecDepth 100000 in
set_option maxHeartbeats 1000000 in
theorem place_c (A : Option Addr) (n c : Nat) (z : Int) (l : List Ml.Pp) (hl : l.length = n) (w : World) :
    Calls Try.prog 23 [.slice A n c, .int .i64 z].toArray w fun e w' => ∃ _g : Unit, e = .returned (.tuple #[.int .i64 (Ml.place l z).1, .int .i64 (Ml.place l z).2]) ∧ St noB w w' [] ∧ True := by
  refine GC.calls Try.func23 rfl rfl (St.begin _) ?_
  subst hl
  unfold Ml.place
  refine GC.seq ?_
  refine GC.reg ?_
  refine GL.val (rv_assign rfl) rfl ?_
  refine GL.val (rv_assign rfl) rfl ?_
  refine GL.nil ?_
  refine GX.then ?_
  refine GC.seq ?_
  refine GC.block ?_
  refine GC.seq ?_
  refine GC.reg ?_
  refine GL.val (rv_move rfl) rfl ?_
  refine GL.val (rv_lenSl Try.underlying22 rfl) rfl ?_
  refine GL.val (rv_eqI rfl rfl) rfl ?_
  refine GL.val (rv_assign rfl) rfl ?_
  refine GL.nil ?_
  refine GX.then ?_
  first | refine GC.condP rfl (fun c1 => ?_) (fun c1 => ?_) | refine GC.cond rfl (fun c1 => ?_) (fun c1 => ?_)
  · refine GC.seq ?_
    refine GC.reg ?_
    refine GL.val (rv_assign rfl) rfl ?_
    refine GL.val (rv_assign rfl) rfl ?_
    refine GL.nil ?_
    refine GX.then ?_
    refine GC.ret ?_
    refine GX.blk_ret ?_
    refine GX.then_ret ?_
    refine GX.ret2 rfl (RR.tmp rfl) (RR.tmp rfl) ?_
    rw [if_pos (by omega)]; exact fun w h => ⟨(), rfl, h, trivial⟩
  · refine GC.seq ?_
    refine GC.reg ?_
    refine GL.val (rv_move rfl) rfl ?_
    refine GL.val (rv_lss rfl rfl) rfl ?_
    refine GL.val (rv_assign rfl) rfl ?_
    refine GL.nil ?_
    refine GX.then ?_
    first | refine GC.condP rfl (fun c2 => ?_) (fun c2 => ?_) | refine GC.cond rfl (fun c2 => ?_) (fun c2 => ?_)
    · refine GC.seq ?_
      refine GC.reg ?_
      refine GL.val (rv_assign rfl) rfl ?_
      refine GL.val (rv_assign rfl) rfl ?_
      refine GL.nil ?_
      refine GX.then ?_
      refine GC.ret ?_
      refine GX.blk_ret ?_
      refine GX.then_ret ?_
      refine GX.ret2 rfl (RR.tmp rfl) (RR.tmp rfl) ?_
      rw [if_neg (by omega), if_pos (by omega)]; exact fun w h => ⟨(), rfl, h, trivial⟩
    · refine GC.skip ?_
      refine GX.blk ?_
      refine GX.then ?_
      refine GC.seq ?_
      refine GC.reg ?_
      refine GL.val (rv_move rfl) rfl ?_
      refine GL.val (rv_move rfl) rfl ?_
      refine GL.val (rv_lenSl Try.underlying22 rfl) rfl ?_
      refine GL.val (rv_rem rfl rfl (by omega)) rfl ?_
      refine GL.val (rv_assign rfl) rfl ?_
      refine GL.val (rv_assign rfl) rfl ?_
      refine GL.nil ?_
      refine GX.then ?_
      refine GC.ret ?_
      refine GX.ret2 rfl (RR.tmp rfl) (RR.tmp rfl) ?_
      rw [if_neg (by omega), if_neg (by omega)]; exact fun w h => ⟨(), rfl, h, trivial⟩
theorem peer_b (z : Int) (b : Bool) (w : World) (h : (decide (0 ≤ z) && decide (z < 8)) = b) : Calls Try.prog 20 [.int .i64 z].toArray w fun e w' => ∃ _g : Unit, e = .returned (.bool b) ∧ St noB w w' [] ∧ True := h ▸ peer_c z w
theorem St.pfNil {w0 w : World} {Fs : List Pc} (h : St noB w0 w Fs) : St noB w0 w (frzN (Ml.pfs none []) :: Fs) := h.put0 fun f hf => by
  simp [Ml.pfs, Ml.pcs] at hf; subst hf; exact .inl rfl
theorem pmem {A : Option Addr} {qs : List Ml.Pv} {q : Ml.Pv} {l : List Fact} (h1 : (A, Ml.pcs (qs ++ [q])) ∈ l) (h2 : Ml.bfact q ∈ l) (h3 : ∀ f ∈ qs.map Ml.bfact, f ∈ l) : ∀ f ∈ Ml.pfs A (qs ++ [q]), f ∈ l := fun f hf => by
  simp only [Ml.pfs, List.map_append, List.mem_cons, List.mem_append, List.map_cons, List.map_nil, List.not_mem_nil, or_false] at hf
  rcases hf with rfl | hf | rfl
  · exact h1
  · exact h3 f hf
  · exact h2
set_option maxRecDepth 100000 in
set_option maxHeartbeats 1000000 in
theorem send_c (A : Option Addr) (n c : Nat) (ps : List Ml.Pv) (w : World) (hR : ∀ f ∈ Ml.pfs A ps, SlR w f.1 f.2) (hl : ps.length = n) (hn : n ≤ 1000000) (hb : ∀ q ∈ ps, q.1.2.2.length ≤ 100000000) (q : Ml.Pv) (hq : SlR w q.2.1 (byts q.1.2.2)) (hqn : q.1.2.2.length ≤ 100000000) :
    Calls Try.prog 12 [.slice A n c, .agg (Ml.pcell q).toArray].toArray w fun e w' => ∃ g : (Option Addr × Nat) × List Ml.Pv, e = .returned (.tuple #[.slice g.1.1 g.2.length g.1.2, .int .i64 (Ml.send (Ml.pl ps) q.1).2]) ∧ St noB w w' [frzN (Ml.pfs g.1.1 g.2)] ∧ Ml.pl g.2 = (Ml.send (Ml.pl ps) q.1).1 := by
  refine GC.calls Try.func12 rfl rfl (St.begin _) ?_
  subst hl
  have hpl := Ml.pl_len ps
  refine GC.seq ?_
  refine GC.reg ?_
  refine GL.step (ot_box rfl rfl rfl fun b3 => ?_)
  refine GL.val (rv_assign rfl) rfl ?_
  refine GL.val (rv_assign rfl) rfl ?_
  refine GL.nil ?_
  refine GX.then ?_
  refine GC.seq ?_
  refine GC.block ?_
  refine GC.seq ?_
  refine GC.cutr ([(0, .slice A ps.length c), (3, .pointer (some ⟨b3, 0, none⟩)), (6, .bool (decide (q.1.1 < 0 ∨ 7 < q.1.1 ∨ q.1.2.1 < 0 ∨ 7 < q.1.2.1)))]) ([.cl b3 (Ml.pcell q) 25]) ?_ ?_
  · rcases (by omega : (q.1.1 < 0 ∨ 7 < q.1.1) ∨ (0 ≤ q.1.1 ∧ q.1.1 < 8 ∧ (q.1.2.1 < 0 ∨ 7 < q.1.2.1)) ∨ (0 ≤ q.1.1 ∧ q.1.1 < 8 ∧ 0 ≤ q.1.2.1 ∧ q.1.2.1 < 8)) with h | h | h
    · have e : decide (q.1.1 < 0 ∨ 7 < q.1.1 ∨ q.1.2.1 < 0 ∨ 7 < q.1.2.1) = true := decide_eq_true (by omega)
      rw [e]
      have hb1 : (decide (0 ≤ q.1.1) && decide (q.1.1 < 8)) = false := by simp only [Bool.and_eq_true, Bool.and_eq_false_iff, decide_eq_true_eq, decide_eq_false_iff_not]; omega
      have hb2 : (decide (0 ≤ q.1.2.1) && decide (q.1.2.1 < 8)) = (decide (0 ≤ q.1.2.1) && decide (q.1.2.1 < 8)) := rfl
      refine GC.reg ?_
      refine GL.val (rv_field fo_25_0 rfl rfl) rfl ?_
      refine GL.val (rv_load ag_3 rfl (by first | exact Hd.cell (k := 0) rfl rfl | exact Hd.rowCell (k := 0) rfl (by assumption) | exact Hd.cell0 (by assumption) (by first | exact fun h => h | assumption))) rfl ?_
      refine GL.step (ot_call hb_20 rfl (callOk fun w hh => peer_b _ _ w hb1) rfl fun _ _ => ?_)
      refine GL.val (rv_not rfl) rfl ?_
      refine GL.val (rv_move rfl) rfl ?_
      first | refine GL.skipG rfl rfl ?_ | refine GL.skipU rfl rfl ?_ | refine GL.valT rfl (rv_field fo_25_1 rfl rfl) rfl ?_ | refine GL.valG rfl (fun hb => rv_field fo_25_1 (by first | exact evb rfl hb | rfl) (by first | exact evb rfl hb | rfl)) rfl ?_
      first | refine GL.skipG rfl rfl ?_ | refine GL.skipU rfl rfl ?_ | refine GL.valT rfl (rv_load ag_3 rfl (by first | exact Hd.cell (k := 0) rfl rfl | exact Hd.rowCell (k := 0) rfl (by assumption) | exact Hd.cell0 (by assumption) (by first | exact fun h => h | assumption))) rfl ?_ | refine GL.valG rfl (fun hb => rv_load ag_3 (by first | exact evb rfl hb | rfl) (by first | exact Hd.cell (k := 0) (by first | exact evb rfl hb | rfl) (by first | exact evb rfl hb | rfl) | exact Hd.rowCell (k := 0) (by first | exact evb rfl hb | rfl) (by assumption) | exact Hd.cell0 (by assumption) (by first | exact fun h => h | assumption))) rfl ?_
      first | refine GL.skipG rfl rfl ?_ | refine GL.skipU rfl rfl ?_ | refine GL.stepG rfl (ot_call hb_20 rfl (callOk fun w hh => peer_b _ _ w hb2) rfl fun _ _ => ?_)
      first | refine GL.skipG rfl rfl ?_ | refine GL.skipU rfl rfl ?_ | refine GL.valT rfl (rv_not rfl) rfl ?_ | refine GL.valG rfl (fun hb => rv_not (by first | exact evb rfl hb | rfl)) rfl ?_
      refine GL.val ((by first | exact rv_orF rfl rfl rfl | exact rv_orT rfl rfl rfl | exact rv_pickOr rfl rfl rfl)) rfl ?_
      refine GL.val (rv_assign rfl) rfl ?_
      refine GL.nil ?_
      exact GX.cut (by repeat (first | exact Sub.nil | refine Sub.cons rfl ?_)) (fun w h => h)
    · have e : decide (q.1.1 < 0 ∨ 7 < q.1.1 ∨ q.1.2.1 < 0 ∨ 7 < q.1.2.1) = true := decide_eq_true (by omega)
      rw [e]
      have hb1 : (decide (0 ≤ q.1.1) && decide (q.1.1 < 8)) = true := by simp only [Bool.and_eq_true, Bool.and_eq_false_iff, decide_eq_true_eq, decide_eq_false_iff_not]; omega
      have hb2 : (decide (0 ≤ q.1.2.1) && decide (q.1.2.1 < 8)) = false := by simp only [Bool.and_eq_true, Bool.and_eq_false_iff, decide_eq_true_eq, decide_eq_false_iff_not]; omega
      refine GC.reg ?_
      refine GL.val (rv_field fo_25_0 rfl rfl) rfl ?_
      refine GL.val (rv_load ag_3 rfl (by first | exact Hd.cell (k := 0) rfl rfl | exact Hd.rowCell (k := 0) rfl (by assumption) | exact Hd.cell0 (by assumption) (by first | exact fun h => h | assumption))) rfl ?_
      refine GL.step (ot_call hb_20 rfl (callOk fun w hh => peer_b _ _ w hb1) rfl fun _ _ => ?_)
      refine GL.val (rv_not rfl) rfl ?_
      refine GL.val (rv_move rfl) rfl ?_
      first | refine GL.skipG rfl rfl ?_ | refine GL.skipU rfl rfl ?_ | refine GL.valT rfl (rv_field fo_25_1 rfl rfl) rfl ?_ | refine GL.valG rfl (fun hb => rv_field fo_25_1 (by first | exact evb rfl hb | rfl) (by first | exact evb rfl hb | rfl)) rfl ?_
      first | refine GL.skipG rfl rfl ?_ | refine GL.skipU rfl rfl ?_ | refine GL.valT rfl (rv_load ag_3 rfl (by first | exact Hd.cell (k := 0) rfl rfl | exact Hd.rowCell (k := 0) rfl (by assumption) | exact Hd.cell0 (by assumption) (by first | exact fun h => h | assumption))) rfl ?_ | refine GL.valG rfl (fun hb => rv_load ag_3 (by first | exact evb rfl hb | rfl) (by first | exact Hd.cell (k := 0) (by first | exact evb rfl hb | rfl) (by first | exact evb rfl hb | rfl) | exact Hd.rowCell (k := 0) (by first | exact evb rfl hb | rfl) (by assumption) | exact Hd.cell0 (by assumption) (by first | exact fun h => h | assumption))) rfl ?_
      first | refine GL.skipG rfl rfl ?_ | refine GL.skipU rfl rfl ?_ | refine GL.stepG rfl (ot_call hb_20 rfl (callOk fun w hh => peer_b _ _ w hb2) rfl fun _ _ => ?_)
      first | refine GL.skipG rfl rfl ?_ | refine GL.skipU rfl rfl ?_ | refine GL.valT rfl (rv_not rfl) rfl ?_ | refine GL.valG rfl (fun hb => rv_not (by first | exact evb rfl hb | rfl)) rfl ?_
      refine GL.val ((by first | exact rv_orF rfl rfl rfl | exact rv_orT rfl rfl rfl | exact rv_pickOr rfl rfl rfl)) rfl ?_
      refine GL.val (rv_assign rfl) rfl ?_
      refine GL.nil ?_
      exact GX.cut (by repeat (first | exact Sub.nil | refine Sub.cons rfl ?_)) (fun w h => h)
    · have e : decide (q.1.1 < 0 ∨ 7 < q.1.1 ∨ q.1.2.1 < 0 ∨ 7 < q.1.2.1) = false := decide_eq_false (by omega)
      rw [e]
      have hb1 : (decide (0 ≤ q.1.1) && decide (q.1.1 < 8)) = true := by simp only [Bool.and_eq_true, Bool.and_eq_false_iff, decide_eq_true_eq, decide_eq_false_iff_not]; omega
      have hb2 : (decide (0 ≤ q.1.2.1) && decide (q.1.2.1 < 8)) = true := by simp only [Bool.and_eq_true, Bool.and_eq_false_iff, decide_eq_true_eq, decide_eq_false_iff_not]; omega
      refine GC.reg ?_
      refine GL.val (rv_field fo_25_0 rfl rfl) rfl ?_
      refine GL.val (rv_load ag_3 rfl (by first | exact Hd.cell (k := 0) rfl rfl | exact Hd.rowCell (k := 0) rfl (by assumption) | exact Hd.cell0 (by assumption) (by first | exact fun h => h | assumption))) rfl ?_
      refine GL.step (ot_call hb_20 rfl (callOk fun w hh => peer_b _ _ w hb1) rfl fun _ _ => ?_)
      refine GL.val (rv_not rfl) rfl ?_
      refine GL.val (rv_move rfl) rfl ?_
      first | refine GL.skipG rfl rfl ?_ | refine GL.skipU rfl rfl ?_ | refine GL.valT rfl (rv_field fo_25_1 rfl rfl) rfl ?_ | refine GL.valG rfl (fun hb => rv_field fo_25_1 (by first | exact evb rfl hb | rfl) (by first | exact evb rfl hb | rfl)) rfl ?_
      first | refine GL.skipG rfl rfl ?_ | refine GL.skipU rfl rfl ?_ | refine GL.valT rfl (rv_load ag_3 rfl (by first | exact Hd.cell (k := 0) rfl rfl | exact Hd.rowCell (k := 0) rfl (by assumption) | exact Hd.cell0 (by assumption) (by first | exact fun h => h | assumption))) rfl ?_ | refine GL.valG rfl (fun hb => rv_load ag_3 (by first | exact evb rfl hb | rfl) (by first | exact Hd.cell (k := 0) (by first | exact evb rfl hb | rfl) (by first | exact evb rfl hb | rfl) | exact Hd.rowCell (k := 0) (by first | exact evb rfl hb | rfl) (by assumption) | exact Hd.cell0 (by assumption) (by first | exact fun h => h | assumption))) rfl ?_
      first | refine GL.skipG rfl rfl ?_ | refine GL.skipU rfl rfl ?_ | refine GL.stepG rfl (ot_call hb_20 rfl (callOk fun w hh => peer_b _ _ w hb2) rfl fun _ _ => ?_)
      first | refine GL.skipG rfl rfl ?_ | refine GL.skipU rfl rfl ?_ | refine GL.valT rfl (rv_not rfl) rfl ?_ | refine GL.valG rfl (fun hb => rv_not (by first | exact evb rfl hb | rfl)) rfl ?_
      refine GL.val ((by first | exact rv_orF rfl rfl rfl | exact rv_orT rfl rfl rfl | exact rv_pickOr rfl rfl rfl)) rfl ?_
      refine GL.val (rv_assign rfl) rfl ?_
      refine GL.nil ?_
      exact GX.cut (by repeat (first | exact Sub.nil | refine Sub.cons rfl ?_)) (fun w h => h)
  refine GX.then ?_
  first | refine GC.condP rfl (fun c1 => ?_) (fun c1 => ?_) | refine GC.cond rfl (fun c1 => ?_) (fun c1 => ?_)
  · refine GC.seq ?_
    refine GC.reg ?_
    refine GL.val (rv_assign rfl) rfl ?_
    refine GL.val (rv_assign rfl) rfl ?_
    refine GL.nil ?_
    refine GX.then ?_
    refine GC.ret ?_
    refine GX.blk_ret ?_
    refine GX.then_ret ?_
    refine GX.ret2 rfl (RR.tmp rfl) (RR.tmp rfl) ?_
    have e : Ml.send (Ml.pl ps) q.1 = ([], 2) := if_pos c1
    rw [e]
    exact fun w h => ⟨((none, 0), []), rfl, (St.pfNil h).take 1, rfl⟩
  · refine GC.seq ?_
    refine GC.reg ?_
    refine GL.val (rv_field fo_25_2 rfl rfl) rfl ?_
    refine GL.val (rv_load ag_23 rfl (by first | exact Hd.cell (k := 0) rfl rfl | exact Hd.rowCell (k := 0) rfl (by assumption) | exact Hd.cell0 (by assumption) (by first | exact fun h => h | assumption))) rfl ?_
    refine GL.val (rv_lenSl Try.underlying23 rfl) rfl ?_
    refine GL.val (rv_gtr rfl rfl) rfl ?_
    refine GL.val (rv_assign rfl) rfl ?_
    refine GL.nil ?_
    refine GX.then ?_
    first | refine GC.condP rfl (fun c2 => ?_) (fun c2 => ?_) | refine GC.cond rfl (fun c2 => ?_) (fun c2 => ?_)
    · refine GC.seq ?_
      refine GC.reg ?_
      refine GL.val (rv_assign rfl) rfl ?_
      refine GL.val (rv_assign rfl) rfl ?_
      refine GL.nil ?_
      refine GX.then ?_
      refine GC.ret ?_
      refine GX.blk_ret ?_
      refine GX.then_ret ?_
      refine GX.ret2 rfl (RR.tmp rfl) (RR.tmp rfl) ?_
      have e : Ml.send (Ml.pl ps) q.1 = ([], 1) := (if_neg c1).trans (if_pos (by omega))
      rw [e]
      exact fun w h => ⟨((none, 0), []), rfl, (St.pfNil h).take 1, rfl⟩
    · refine GC.seq ?_
      refine GC.reg ?_
      refine GL.val (rv_move rfl) rfl ?_
      refine GL.val (rv_lenSl Try.underlying22 rfl) rfl ?_
      refine GL.val (rv_geq rfl rfl) rfl ?_
      refine GL.val (rv_assign rfl) rfl ?_
      refine GL.nil ?_
      refine GX.then ?_
      first | refine GC.condP rfl (fun c3 => ?_) (fun c3 => ?_) | refine GC.cond rfl (fun c3 => ?_) (fun c3 => ?_)
      · refine GC.seq ?_
        refine GC.reg ?_
        refine GL.val (rv_assign rfl) rfl ?_
        refine GL.val (rv_assign rfl) rfl ?_
        refine GL.nil ?_
        refine GX.then ?_
        refine GC.ret ?_
        refine GX.blk_ret ?_
        refine GX.then_ret ?_
        refine GX.ret2 rfl (RR.tmp rfl) (RR.tmp rfl) ?_
        have e : Ml.send (Ml.pl ps) q.1 = ([], 9) := ((if_neg c1).trans (if_neg (by omega))).trans (if_pos (by omega))
        rw [e]
        exact fun w h => ⟨((none, 0), []), rfl, (St.pfNil h).take 1, rfl⟩
      · refine GC.skip ?_
        refine GX.blk ?_
        refine GX.then ?_
        refine GC.seq ?_
        refine GC.draw 8 [0] mo_ ?_
        refine GD.pure (i := 0) rfl (fun _ _ => rv_move rfl) (by kernel_rfl) (by repeat (first | exact noPanicPut_body | exact noPanicPut_cut | exact noPanicPut_cutE | refine noPanicPut_then ?_ | refine noPanicPut_blk ?_)) ?_
        refine GD.read (i := 2) rfl (rv_loadA ag_25 rfl (by first | exact Hd.cellsAll (k := 0) rfl | exact Hd.cells0 (by assumption) (by first | exact fun h => h | assumption)) (by exact sz_25)) (by kernel_rfl) (by repeat (first | exact noPanicPut_body | exact noPanicPut_cut | exact noPanicPut_cutE | refine noPanicPut_then ?_ | refine noPanicPut_blk ?_)) ?_
        refine GD.step (i := 1) (by kernel_rfl) rfl (ot_call hb_21 rfl (callOk fun w hh => own_c A _ c ps w (fun f hf => hh.rd0n (hR f hf)) rfl hn hb) rfl fun g27 hqs => ⟨.inr fun _ h => h.pk [2], ?_⟩)
        obtain ⟨⟨A27, c27⟩, qs⟩ := g27
        dsimp only at hqs
        have hql : ps.length = qs.length := by rw [← Ml.pl_len qs, hqs, hpl]
        refine GD.step (i := 3) (by kernel_rfl) rfl (ot_call hb_22 rfl (callOk fun w hh => copied_c q w (hh.rd0n hq) hqn) rfl fun g29 _ => ⟨.inr fun _ h => h.pk [3], ?_⟩)
        obtain ⟨A29, c29⟩ := g29
        refine GD.step (i := 4) (by kernel_rfl) rfl (ot_buildSlice ei_22 rfl rfl rfl rfl rfl rfl fun b30 => ⟨.inr fun _ h => h.pk [4], ?_⟩)
        first | refine GD.step (i := 5) (by kernel_rfl) rfl (ot_append (k := 1) ei_22 rfl rfl rfl (by rfl) (fun w h => .inr ⟨_, _, rfl, Hd.cellsAll (k := 0) rfl w h⟩) (by rfl) (by omega) (by decide) rfl fun A31 c31 z31 => ⟨.inr fun _ h => h.pk [4], ?_⟩) | refine GD.step (i := 5) (by kernel_rfl) rfl (ot_append (k := 2) ei_22 rfl rfl rfl (by rfl) (fun w h => .inr ⟨_, _, rfl, Hd.cellsAll (k := 0) rfl w h⟩) (by rfl) (by omega) (by decide) rfl fun A31 c31 z31 => ⟨.inr fun _ h => h.pk [4], ?_⟩) | refine GD.step (i := 5) (by kernel_rfl) rfl (ot_append (k := 3) ei_22 rfl rfl rfl (by rfl) (fun w h => .inr ⟨_, _, rfl, Hd.cellsAll (k := 0) rfl w h⟩) (by rfl) (by omega) (by decide) rfl fun A31 c31 z31 => ⟨.inr fun _ h => h.pk [4], ?_⟩) | refine GD.step (i := 5) (by kernel_rfl) rfl (ot_append (k := 4) ei_22 rfl rfl rfl (by rfl) (fun w h => .inr ⟨_, _, rfl, Hd.cellsAll (k := 0) rfl w h⟩) (by rfl) (by omega) (by decide) rfl fun A31 c31 z31 => ⟨.inr fun _ h => h.pk [4], ?_⟩) | refine GD.step (i := 5) (by kernel_rfl) rfl (ot_append (k := 0) ei_22 rfl rfl rfl (by rfl) (fun w h => .inr ⟨_, _, rfl, Hd.cellsAll (k := 1) rfl w h⟩) (by rfl) (by omega) (by decide) rfl fun A31 c31 z31 => ⟨.inr fun _ h => h.pk [4], ?_⟩) | refine GD.step (i := 5) (by kernel_rfl) rfl (ot_append (k := 2) ei_22 rfl rfl rfl (by rfl) (fun w h => .inr ⟨_, _, rfl, Hd.cellsAll (k := 1) rfl w h⟩) (by rfl) (by omega) (by decide) rfl fun A31 c31 z31 => ⟨.inr fun _ h => h.pk [4], ?_⟩) | refine GD.step (i := 5) (by kernel_rfl) rfl (ot_append (k := 3) ei_22 rfl rfl rfl (by rfl) (fun w h => .inr ⟨_, _, rfl, Hd.cellsAll (k := 1) rfl w h⟩) (by rfl) (by omega) (by decide) rfl fun A31 c31 z31 => ⟨.inr fun _ h => h.pk [4], ?_⟩) | refine GD.step (i := 5) (by kernel_rfl) rfl (ot_append (k := 4) ei_22 rfl rfl rfl (by rfl) (fun w h => .inr ⟨_, _, rfl, Hd.cellsAll (k := 1) rfl w h⟩) (by rfl) (by omega) (by decide) rfl fun A31 c31 z31 => ⟨.inr fun _ h => h.pk [4], ?_⟩) | refine GD.step (i := 5) (by kernel_rfl) rfl (ot_append (k := 0) ei_22 rfl rfl rfl (by rfl) (fun w h => .inr ⟨_, _, rfl, Hd.cellsAll (k := 2) rfl w h⟩) (by rfl) (by omega) (by decide) rfl fun A31 c31 z31 => ⟨.inr fun _ h => h.pk [4], ?_⟩) | refine GD.step (i := 5) (by kernel_rfl) rfl (ot_append (k := 1) ei_22 rfl rfl rfl (by rfl) (fun w h => .inr ⟨_, _, rfl, Hd.cellsAll (k := 2) rfl w h⟩) (by rfl) (by omega) (by decide) rfl fun A31 c31 z31 => ⟨.inr fun _ h => h.pk [4], ?_⟩) | refine GD.step (i := 5) (by kernel_rfl) rfl (ot_append (k := 3) ei_22 rfl rfl rfl (by rfl) (fun w h => .inr ⟨_, _, rfl, Hd.cellsAll (k := 2) rfl w h⟩) (by rfl) (by omega) (by decide) rfl fun A31 c31 z31 => ⟨.inr fun _ h => h.pk [4], ?_⟩) | refine GD.step (i := 5) (by kernel_rfl) rfl (ot_append (k := 4) ei_22 rfl rfl rfl (by rfl) (fun w h => .inr ⟨_, _, rfl, Hd.cellsAll (k := 2) rfl w h⟩) (by rfl) (by omega) (by decide) rfl fun A31 c31 z31 => ⟨.inr fun _ h => h.pk [4], ?_⟩) | refine GD.step (i := 5) (by kernel_rfl) rfl (ot_append (k := 0) ei_22 rfl rfl rfl (by rfl) (fun w h => .inr ⟨_, _, rfl, Hd.cellsAll (k := 3) rfl w h⟩) (by rfl) (by omega) (by decide) rfl fun A31 c31 z31 => ⟨.inr fun _ h => h.pk [4], ?_⟩) | refine GD.step (i := 5) (by kernel_rfl) rfl (ot_append (k := 1) ei_22 rfl rfl rfl (by rfl) (fun w h => .inr ⟨_, _, rfl, Hd.cellsAll (k := 3) rfl w h⟩) (by rfl) (by omega) (by decide) rfl fun A31 c31 z31 => ⟨.inr fun _ h => h.pk [4], ?_⟩) | refine GD.step (i := 5) (by kernel_rfl) rfl (ot_append (k := 2) ei_22 rfl rfl rfl (by rfl) (fun w h => .inr ⟨_, _, rfl, Hd.cellsAll (k := 3) rfl w h⟩) (by rfl) (by omega) (by decide) rfl fun A31 c31 z31 => ⟨.inr fun _ h => h.pk [4], ?_⟩) | refine GD.step (i := 5) (by kernel_rfl) rfl (ot_append (k := 4) ei_22 rfl rfl rfl (by rfl) (fun w h => .inr ⟨_, _, rfl, Hd.cellsAll (k := 3) rfl w h⟩) (by rfl) (by omega) (by decide) rfl fun A31 c31 z31 => ⟨.inr fun _ h => h.pk [4], ?_⟩)
        refine GD.pure (i := 6) rfl (fun _ _ => rv_assign rfl) (by kernel_rfl) (by repeat (first | exact noPanicPut_body | exact noPanicPut_cut | exact noPanicPut_cutE | refine noPanicPut_then ?_ | refine noPanicPut_blk ?_)) ?_
        refine GD.pure (i := 7) rfl (fun _ _ => rv_assign rfl) (by kernel_rfl) (by repeat (first | exact noPanicPut_body | exact noPanicPut_cut | exact noPanicPut_cutE | refine noPanicPut_then ?_ | refine noPanicPut_blk ?_)) ?_
        refine GD.done (by kernel_rfl) ?_
        refine GX.then ?_
        refine GC.ret ?_
        refine GX.ret2 rfl (RR.tmp rfl) (RR.tmp rfl) ?_
        have e : Ml.send (Ml.pl ps) q.1 = (Ml.pl ps ++ [q.1], 0) := ((if_neg c1).trans (if_neg (by omega))).trans (if_neg (by omega))
        rw [e]
        exact fun w h => by
          refine ⟨((A31, c31), qs ++ [(q.1, (A29, c29))]), by simp [hql], ?_, by simp [Ml.pl] at hqs ⊢; exact hqs⟩
          have ec : Ml.pcs (qs ++ [(q.1, (A29, c29))]) = Ml.pcs qs ++ Ml.pcell (q.1, (A29, c29)) := by rw [Ml.pcs_app]; simp [Ml.pcs]
          have h1 := (((h.drop 0).rowFrz (k := 1) rfl).frzNAdd).frzNAdd
          refine (h1.frzNSub (k := 0) rfl (pmem ?_ ?_ ?_)).take 1
          · rw [ec]; simp [Value.cells]
          · simp
          · intro f hf; simp at hf ⊢; simp [hf]
end Go.Proofs.Ytgdbcclammapnaa
