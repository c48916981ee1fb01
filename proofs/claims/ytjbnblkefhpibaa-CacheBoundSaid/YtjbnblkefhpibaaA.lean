import Derived.Test.YtjbnblkefhpibaaRo
import Derived.Test.YtjbnblkefhpibaaPlain
import Derived.Test.YtjbnblkefhpibaaRows
set_option linter.unusedVariables false
set_option linter.unusedSimpArgs false
namespace Go.Proofs.Ytjbnblkefhpibaa
open Go Go.RowKit Go.Bz
theorem ag_24 : aggB Try.prog 24 = some false := by kernel_rfl
theorem ag_25 : aggB Try.prog 25 = some false := by kernel_rfl
theorem ag_3 : aggB Try.prog 3 = some false := by kernel_rfl
theorem ag_9 : aggB Try.prog 9 = some false := by kernel_rfl
theorem ei_24 : elemInfo Try.prog 24 = some (9, 1, 16) := by kernel_rfl
theorem ei_25 : elemInfo Try.prog 25 = some (3, 1, 8) := by kernel_rfl
theorem es_24 : elemSz Try.prog 24 = some 1 := by kernel_rfl
theorem es_25 : elemSz Try.prog 25 = some 1 := by kernel_rfl
theorem fo_55_1 : fieldOff Try.prog 55 1 = some 1 := by kernel_rfl
theorem fo_55_2 : fieldOff Try.prog 55 2 = some 2 := by kernel_rfl
theorem fo_55_3 : fieldOff Try.prog 55 3 = some 3 := by kernel_rfl
theorem fo_55_4 : fieldOff Try.prog 55 4 = some 4 := by kernel_rfl
theorem hb_29 : hasBody Try.prog 29 = true := by kernel_rfl
theorem hb_30 : hasBody Try.prog 30 = true := by kernel_rfl
theorem mo_ : Try.prog.follows .mixedOrders = true := by kernel_rfl
theorem sz_24 : (Try.prog.info? 24).map (·.size) = some 1 := by kernel_rfl
theorem sz_25 : (Try.prog.info? 25).map (·.size) = some 1 := by kernel_rfl
theorem zb_3 : zeroB Try.prog 3 = some (.int .i64 0) := by kernel_rfl
theorem zb_9 : zeroB Try.prog 9 = some (.string ByteArray.empty) := by kernel_rfl
set_option maxRecDepth 100000 in
set_option maxHeartbeats 1000000 in
theorem index_c (A : Option Addr) (c n : Nat) (ks : List ByteArray) (k : ByteArray) (w : World) (hR : SlR w A (ks.map .string)) (hl : ks.length = n) (hn : n ≤ 1000000) :
    Calls Try.prog 23 [.slice A n c, .string k].toArray w fun e w' => ∃ _g : Unit, e = .returned (.int .i64 (if Bc.ix ks k < ks.length then (Bc.ix ks k : Int) else -1)) ∧ St noB w w' [] ∧ True := by
  refine GC.calls Try.func23 rfl rfl (St.begin _) ?_
  subst hl
  have HA : ks.length = 0 ∨ ∃ b o, A = some ⟨b, o, none⟩ ∧ Cells w b o (ks.map .string) := hR.imp (fun h => by simpa using congrArg List.length h) id
  refine GC.seq ?_
  refine GC.reg ?_
  refine GL.val (rv_assign rfl) rfl ?_
  refine GL.nil ?_
  refine GX.then ?_
  refine GC.seq ?_
  refine GC.seq ?_
  refine GC.reg ?_
  refine GL.val (rv_move rfl) rfl ?_
  refine GL.val (rv_lenSl Try.underlying24 rfl) rfl ?_
  refine GL.val (rv_move rfl) rfl ?_
  refine GL.nil ?_
  refine GX.then ?_
  refine GC.block ?_
  refine GC.loop (γ := Nat) (fun k' => [(0, .slice A ks.length c), (1, .string k), (7, .int .i64 (ks.length : Int)), (8, .int .i64 (k' : Int))]) (fun _ => []) (fun k' => k' ≤ ks.length ∧ Bc.ix ks k = k' + Bc.ix (ks.drop k') k) (fun k' => ks.length - k') (0) ⟨Nat.zero_le _, by simp⟩ (by repeat (first | exact Sub.nil | refine Sub.cons rfl ?_)) (fun w h => h) (fun j ⟨hj, hix⟩ => ?_)
  refine GC.seq ?_
  refine GC.reg ?_
  refine GL.val (rv_lss rfl rfl) rfl ?_
  refine GL.nil ?_
  refine GX.then ?_
  refine GC.seq ?_
  first | refine GC.condP rfl (fun c1 => ?_) (fun c1 => ?_) | refine GC.cond rfl (fun c1 => ?_) (fun c1 => ?_)
  · have hlt : j < ks.length := by omega
    obtain ⟨b, o, rfl, hC⟩ := HA.resolve_left (by omega)
    refine GC.skip ?_
    refine GX.then ?_
    refine GC.seq ?_
    refine GC.block ?_
    refine GC.seq ?_
    refine GC.reg ?_
    refine GL.val (rv_move rfl) rfl ?_
    refine GL.val (rv_assign rfl) rfl ?_
    refine GL.nil ?_
    refine GX.then ?_
    refine GC.seq ?_
    refine GC.reg ?_
    refine GL.val (rv_move rfl) rfl ?_
    refine GL.val (rv_move rfl) rfl ?_
    refine GL.val (rv_move rfl) rfl ?_
    refine GL.val (rv_elem es_24 rfl rfl (by omega) (by omega)) rfl ?_
    refine GL.val (rv_load ag_9 rfl (Hd.at0 (u := .string ks[j]) hC (fun h => h) (by simp [hlt]))) rfl ?_
    refine GL.val (rv_eqS rfl rfl) rfl ?_
    refine GL.nil ?_
    refine GX.then ?_
    first | refine GC.condP rfl (fun c2 => ?_) (fun c2 => ?_) | refine GC.cond rfl (fun c2 => ?_) (fun c2 => ?_)
    · refine GC.seq ?_
      refine GC.reg ?_
      refine GL.val (rv_move rfl) rfl ?_
      refine GL.val (rv_assign rfl) rfl ?_
      refine GL.nil ?_
      refine GX.then ?_
      refine GC.ret ?_
      refine GX.blk_ret ?_
      refine GX.then_ret ?_
      refine GX.then_ret ?_
      refine GX.blk_ret ?_
      refine GX.then_ret ?_
      refine GX.ret1 rfl (RR.tmp rfl) ?_
      have h1 : Bc.ix ks k = j := by rw [hix, Bc.ix_drop ks k j hlt, if_pos c2]; rfl
      exact fun w h => ⟨(), by rw [h1, if_pos hlt], h, trivial⟩
    · refine GC.skip ?_
      refine GX.blk ?_
      refine GX.then ?_
      refine GC.reg ?_
      refine GL.val (rv_add rfl rfl (by omega) (by omega)) rfl ?_
      refine GL.val (rv_move rfl) rfl ?_
      refine GL.nil ?_
      exact GX.round (j + 1) (by omega) ⟨by omega, by rw [hix, Bc.ix_drop ks k j (by omega), if_neg c2]; omega⟩ (by repeat (first | exact Sub.nil | refine Sub.cons rfl ?_)) (fun w h => h)
  · refine GC.exit ?_
    refine GX.then_exit ?_
    refine GX.then_exit ?_
    refine GX.blk_eq ?_
    refine GX.then ?_
    refine GC.seq ?_
    refine GC.reg ?_
    refine GL.val (rv_assign rfl) rfl ?_
    refine GL.nil ?_
    refine GX.then ?_
    refine GC.ret ?_
    refine GX.ret1 rfl (RR.tmp rfl) ?_
    have hj' : j = ks.length := by omega
    have h1 : ¬ Bc.ix ks k < ks.length := by rw [hix, hj']; simp [Bc.ix]
    exact fun w h => ⟨(), by rw [if_neg h1], h, trivial⟩
set_option maxRecDepth 100000 in
set_option maxHeartbeats 1000000 in
theorem deleteS_c (b c n i j : Nat) (xs : List Value) (w : World) (S : Nat → Prop) (hA : (Pc.row (some ⟨b, 0, none⟩) c 9 1 n xs).A S w) (hb : ∀ b, S b → b < w.heap.size) (hij : i ≤ j) (hj : j ≤ n) (h1 : xs.all Value.oneCell' = true) :
    Calls Try.prog 29 [.slice (some ⟨b, 0, none⟩) n c, .int .i64 (i : Int), .int .i64 (j : Int)].toArray w fun e w' => ∃ _g : Unit, e = .returned (.slice (some ⟨b, 0, none⟩) (n - (j - i)) c) ∧
      St S w w' [.row (some ⟨b, 0, none⟩) c 9 1 (n - (j - i)) (xs.take (i * 1) ++ xs.drop (j * 1))] ∧ True := by
  refine GC.calls Try.func29 rfl rfl (St.begin1 hA hb) ?_
  refine GC.rowForm (k := 0) rfl fun hx hc _ => ?_
  refine GC.seq ?_
  refine GC.reg ?_
  refine GL.val (rv_assign rfl) rfl ?_
  refine GL.nil ?_
  refine GX.then ?_
  refine GC.seq ?_
  refine GC.reg ?_
  refine GL.val (rv_move rfl) rfl ?_
  refine GL.val (rv_move rfl) rfl ?_
  refine GL.val (rv_move rfl) rfl ?_
  refine GL.val (rv_move rfl) rfl ?_
  refine GL.val (rv_lenSl Try.underlying24 rfl) rfl ?_
  refine GL.val (rv_sl es_24 rfl rfl rfl rfl rfl i j n rfl rfl rfl (by omega) (by omega) (by omega)) rfl ?_
  refine GL.nil ?_
  refine GX.then ?_
  refine GC.seq ?_
  refine GC.seq ?_
  refine GC.reg ?_
  refine GL.val (rv_move rfl) rfl ?_
  refine GL.val (rv_move rfl) rfl ?_
  refine GL.val (rv_eqI rfl rfl) rfl ?_
  refine GL.nil ?_
  refine GX.then ?_
  first | refine GC.condP rfl (fun c1 => ?_) (fun c1 => ?_) | refine GC.cond rfl (fun c1 => ?_) (fun c1 => ?_)
  · refine GC.seq ?_
    refine GC.reg ?_
    refine GL.val (rv_move rfl) rfl ?_
    refine GL.val (rv_assign rfl) rfl ?_
    refine GL.nil ?_
    refine GX.then ?_
    refine GC.ret ?_
    refine GX.then_ret ?_
    refine GX.ret1 rfl (RR.tmp rfl) ?_
    have e : i = j := by omega
    subst e
    exact fun w h => ⟨(), by simp, by simpa using h, trivial⟩
  · refine GC.skip ?_
    refine GX.then ?_
    refine GC.seq ?_
    refine GC.reg ?_
    refine GL.val (rv_move rfl) rfl ?_
    refine GL.val (rv_lenSl Try.underlying24 rfl) rfl ?_
    refine GL.val (rv_assign rfl) rfl ?_
    refine GL.nil ?_
    refine GX.then ?_
    refine GC.seq ?_
    refine GC.draw 8 [] mo_ ?_
    refine GD.pure (i := 0) rfl (fun _ _ => rv_move rfl) (by kernel_rfl) (by repeat (first | exact noPanicPut_body | exact noPanicPut_cut | exact noPanicPut_cutE | refine noPanicPut_then ?_ | refine noPanicPut_blk ?_)) ?_
    refine GD.pure (i := 1) rfl (fun _ _ => rv_move rfl) (by kernel_rfl) (by repeat (first | exact noPanicPut_body | exact noPanicPut_cut | exact noPanicPut_cutE | refine noPanicPut_then ?_ | refine noPanicPut_blk ?_)) ?_
    refine GD.pure (i := 2) rfl (fun _ _ => rv_slTo es_24 rfl rfl i rfl (by omega)) (by kernel_rfl) (by repeat (first | exact noPanicPut_body | exact noPanicPut_cut | exact noPanicPut_cutE | refine noPanicPut_then ?_ | refine noPanicPut_blk ?_)) ?_
    refine GD.pure (i := 3) rfl (fun _ _ => rv_move rfl) (by kernel_rfl) (by repeat (first | exact noPanicPut_body | exact noPanicPut_cut | exact noPanicPut_cutE | refine noPanicPut_then ?_ | refine noPanicPut_blk ?_)) ?_
    refine GD.pure (i := 4) rfl (fun _ _ => rv_move rfl) (by kernel_rfl) (by repeat (first | exact noPanicPut_body | exact noPanicPut_cut | exact noPanicPut_cutE | refine noPanicPut_then ?_ | refine noPanicPut_blk ?_)) ?_
    refine GD.pure (i := 5) rfl (fun _ _ => rv_slFrom es_24 rfl rfl j rfl (by omega) (by omega)) (by kernel_rfl) (by repeat (first | exact noPanicPut_body | exact noPanicPut_cut | exact noPanicPut_cutE | refine noPanicPut_then ?_ | refine noPanicPut_blk ?_)) ?_
    refine GD.step (i := 6) (by kernel_rfl) rfl (ot_appendIn (k := 0) (news := xs.drop (j * 1)) ei_24 rfl rfl rfl (fun w h => (Nat.eq_zero_or_pos (n - j)).imp id fun hp => ⟨b, 0 + j * 1, sAddr_lt (by omega), Hd.rowFrom (k := 0) rfl w h⟩) (by simp [hx, Nat.sub_mul]) (one_drop h1 _) (by omega) (by omega) hx rfl ⟨.inr fun _ h => h.pk [], ?_⟩)
    refine GD.pure (i := 7) rfl (fun _ _ => rv_assign rfl) (by kernel_rfl) (by repeat (first | exact noPanicPut_body | exact noPanicPut_cut | exact noPanicPut_cutE | refine noPanicPut_then ?_ | refine noPanicPut_blk ?_)) ?_
    refine GD.done (by kernel_rfl) ?_
    refine GX.then ?_
    refine GC.seq ?_
    refine GC.reg ?_
    refine GL.val (rv_move rfl) rfl ?_
    refine GL.val (rv_move rfl) rfl ?_
    refine GL.val (rv_lenSl Try.underlying24 rfl) rfl ?_
    refine GL.val (rv_move rfl) rfl ?_
    refine GL.val (rv_sl es_24 rfl rfl rfl rfl rfl (i + (n - j)) n c rfl rfl rfl (by omega) (by omega) (by omega)) rfl ?_
    refine GL.step (ot_clear (k := 0) (l := i + (n - j)) ei_24 zb_9 rfl rfl ((Nat.eq_zero_or_pos (n - (i + (n - j)))).imp id fun hp => by rw [sAddr_lt (by omega), Nat.zero_add]) (by omega) (by simp; omega) rfl ?_)
    refine GL.nil ?_
    refine GX.then ?_
    refine GC.seq ?_
    refine GC.reg ?_
    refine GL.val (rv_move rfl) rfl ?_
    refine GL.val (rv_assign rfl) rfl ?_
    refine GL.nil ?_
    refine GX.then ?_
    refine GC.ret ?_
    refine GX.ret1 rfl (RR.tmp rfl) ?_
    exact fun w h => ⟨(), by congr 2; omega, by simpa using h.rowCut (k := 0) (m := n - (j - i)) (ys := xs.take (i * 1) ++ xs.drop (j * 1)) rfl (by omega) (by rw [show n - (j - i) = i + (n - j) by omega]; exact del_eq _ _ _ _ (Nat.mul_le_mul_right _ hij) (by rw [hx]; exact Nat.mul_le_mul_right _ hj) (by rw [hx, ← Nat.sub_mul, ← Nat.add_mul])), trivial⟩
set_option maxRecDepth 100000 in
set_option maxHeartbeats 1000000 in
theorem deleteI_c (b c n i j : Nat) (xs : List Value) (w : World) (S : Nat → Prop) (hA : (Pc.row (some ⟨b, 0, none⟩) c 3 1 n xs).A S w) (hb : ∀ b, S b → b < w.heap.size) (hij : i ≤ j) (hj : j ≤ n) (h1 : xs.all Value.oneCell' = true) :
    Calls Try.prog 30 [.slice (some ⟨b, 0, none⟩) n c, .int .i64 (i : Int), .int .i64 (j : Int)].toArray w fun e w' => ∃ _g : Unit, e = .returned (.slice (some ⟨b, 0, none⟩) (n - (j - i)) c) ∧
      St S w w' [.row (some ⟨b, 0, none⟩) c 3 1 (n - (j - i)) (xs.take (i * 1) ++ xs.drop (j * 1))] ∧ True := by
  refine GC.calls Try.func30 rfl rfl (St.begin1 hA hb) ?_
  refine GC.rowForm (k := 0) rfl fun hx hc _ => ?_
  refine GC.seq ?_
  refine GC.reg ?_
  refine GL.val (rv_assign rfl) rfl ?_
  refine GL.nil ?_
  refine GX.then ?_
  refine GC.seq ?_
  refine GC.reg ?_
  refine GL.val (rv_move rfl) rfl ?_
  refine GL.val (rv_move rfl) rfl ?_
  refine GL.val (rv_move rfl) rfl ?_
  refine GL.val (rv_move rfl) rfl ?_
  refine GL.val (rv_lenSl Try.underlying25 rfl) rfl ?_
  refine GL.val (rv_sl es_25 rfl rfl rfl rfl rfl i j n rfl rfl rfl (by omega) (by omega) (by omega)) rfl ?_
  refine GL.nil ?_
  refine GX.then ?_
  refine GC.seq ?_
  refine GC.seq ?_
  refine GC.reg ?_
  refine GL.val (rv_move rfl) rfl ?_
  refine GL.val (rv_move rfl) rfl ?_
  refine GL.val (rv_eqI rfl rfl) rfl ?_
  refine GL.nil ?_
  refine GX.then ?_
  first | refine GC.condP rfl (fun c1 => ?_) (fun c1 => ?_) | refine GC.cond rfl (fun c1 => ?_) (fun c1 => ?_)
  · refine GC.seq ?_
    refine GC.reg ?_
    refine GL.val (rv_move rfl) rfl ?_
    refine GL.val (rv_assign rfl) rfl ?_
    refine GL.nil ?_
    refine GX.then ?_
    refine GC.ret ?_
    refine GX.then_ret ?_
    refine GX.ret1 rfl (RR.tmp rfl) ?_
    have e : i = j := by omega
    subst e
    exact fun w h => ⟨(), by simp, by simpa using h, trivial⟩
  · refine GC.skip ?_
    refine GX.then ?_
    refine GC.seq ?_
    refine GC.reg ?_
    refine GL.val (rv_move rfl) rfl ?_
    refine GL.val (rv_lenSl Try.underlying25 rfl) rfl ?_
    refine GL.val (rv_assign rfl) rfl ?_
    refine GL.nil ?_
    refine GX.then ?_
    refine GC.seq ?_
    refine GC.draw 8 [] mo_ ?_
    refine GD.pure (i := 0) rfl (fun _ _ => rv_move rfl) (by kernel_rfl) (by repeat (first | exact noPanicPut_body | exact noPanicPut_cut | exact noPanicPut_cutE | refine noPanicPut_then ?_ | refine noPanicPut_blk ?_)) ?_
    refine GD.pure (i := 1) rfl (fun _ _ => rv_move rfl) (by kernel_rfl) (by repeat (first | exact noPanicPut_body | exact noPanicPut_cut | exact noPanicPut_cutE | refine noPanicPut_then ?_ | refine noPanicPut_blk ?_)) ?_
    refine GD.pure (i := 2) rfl (fun _ _ => rv_slTo es_25 rfl rfl i rfl (by omega)) (by kernel_rfl) (by repeat (first | exact noPanicPut_body | exact noPanicPut_cut | exact noPanicPut_cutE | refine noPanicPut_then ?_ | refine noPanicPut_blk ?_)) ?_
    refine GD.pure (i := 3) rfl (fun _ _ => rv_move rfl) (by kernel_rfl) (by repeat (first | exact noPanicPut_body | exact noPanicPut_cut | exact noPanicPut_cutE | refine noPanicPut_then ?_ | refine noPanicPut_blk ?_)) ?_
    refine GD.pure (i := 4) rfl (fun _ _ => rv_move rfl) (by kernel_rfl) (by repeat (first | exact noPanicPut_body | exact noPanicPut_cut | exact noPanicPut_cutE | refine noPanicPut_then ?_ | refine noPanicPut_blk ?_)) ?_
    refine GD.pure (i := 5) rfl (fun _ _ => rv_slFrom es_25 rfl rfl j rfl (by omega) (by omega)) (by kernel_rfl) (by repeat (first | exact noPanicPut_body | exact noPanicPut_cut | exact noPanicPut_cutE | refine noPanicPut_then ?_ | refine noPanicPut_blk ?_)) ?_
    refine GD.step (i := 6) (by kernel_rfl) rfl (ot_appendIn (k := 0) (news := xs.drop (j * 1)) ei_25 rfl rfl rfl (fun w h => (Nat.eq_zero_or_pos (n - j)).imp id fun hp => ⟨b, 0 + j * 1, sAddr_lt (by omega), Hd.rowFrom (k := 0) rfl w h⟩) (by simp [hx, Nat.sub_mul]) (one_drop h1 _) (by omega) (by omega) hx rfl ⟨.inr fun _ h => h.pk [], ?_⟩)
    refine GD.pure (i := 7) rfl (fun _ _ => rv_assign rfl) (by kernel_rfl) (by repeat (first | exact noPanicPut_body | exact noPanicPut_cut | exact noPanicPut_cutE | refine noPanicPut_then ?_ | refine noPanicPut_blk ?_)) ?_
    refine GD.done (by kernel_rfl) ?_
    refine GX.then ?_
    refine GC.seq ?_
    refine GC.reg ?_
    refine GL.val (rv_move rfl) rfl ?_
    refine GL.val (rv_move rfl) rfl ?_
    refine GL.val (rv_lenSl Try.underlying25 rfl) rfl ?_
    refine GL.val (rv_move rfl) rfl ?_
    refine GL.val (rv_sl es_25 rfl rfl rfl rfl rfl (i + (n - j)) n c rfl rfl rfl (by omega) (by omega) (by omega)) rfl ?_
    refine GL.step (ot_clear (k := 0) (l := i + (n - j)) ei_25 zb_3 rfl rfl ((Nat.eq_zero_or_pos (n - (i + (n - j)))).imp id fun hp => by rw [sAddr_lt (by omega), Nat.zero_add]) (by omega) (by simp; omega) rfl ?_)
    refine GL.nil ?_
    refine GX.then ?_
    refine GC.seq ?_
    refine GC.reg ?_
    refine GL.val (rv_move rfl) rfl ?_
    refine GL.val (rv_assign rfl) rfl ?_
    refine GL.nil ?_
    refine GX.then ?_
    refine GC.ret ?_
    refine GX.ret1 rfl (RR.tmp rfl) ?_
    exact fun w h => ⟨(), by congr 2; omega, by simpa using h.rowCut (k := 0) (m := n - (j - i)) (ys := xs.take (i * 1) ++ xs.drop (j * 1)) rfl (by omega) (by rw [show n - (j - i) = i + (n - j) by omega]; exact del_eq _ _ _ _ (Nat.mul_le_mul_right _ hij) (by rw [hx]; exact Nat.mul_le_mul_right _ hj) (by rw [hx, ← Nat.sub_mul, ← Nat.add_mul])), trivial⟩
set_option maxRecDepth 100000 in
set_option maxHeartbeats 1000000 in
theorem clone_c (A : Option Addr) (c n : Nat) (us : List Value) (w : World) (hR : SlR w A us) (hl : us.length = n) (hn : n ≤ 1000000) (h1 : us.all Value.oneCell' = true) :
    Calls Try.prog 26 [.slice A n c].toArray w fun e w' => ∃ g : Option Addr × Nat, e = .returned (.slice g.1 n g.2) ∧ St noB w w' [.row g.1 g.2 9 1 n us] ∧ True := by
  refine GC.calls Try.func26 rfl rfl (St.begin _) ?_
  subst hl
  have hA : A.isNone = true → us = [] := fun h => by rcases hR with h | ⟨b, o, rfl, _⟩; exact h; cases h
  refine GC.seq ?_
  refine GC.reg ?_
  refine GL.val (rv_assign rfl) rfl ?_
  refine GL.nil ?_
  refine GX.then ?_
  refine GC.seq ?_
  refine GC.seq ?_
  refine GC.reg ?_
  refine GL.val (rv_move rfl) rfl ?_
  refine GL.val (rv_slNil Try.underlying24 rfl rfl) rfl ?_
  refine GL.nil ?_
  refine GX.then ?_
  first | refine GC.condP rfl (fun c1 => ?_) (fun c1 => ?_) | refine GC.cond rfl (fun c1 => ?_) (fun c1 => ?_)
  · refine GC.seq ?_
    refine GC.reg ?_
    refine GL.val (rv_assign rfl) rfl ?_
    refine GL.nil ?_
    refine GX.then ?_
    refine GC.ret ?_
    refine GX.then_ret ?_
    refine GX.ret1 rfl (RR.tmp rfl) ?_
    obtain rfl : us = [] := hA c1
    exact fun w h => ⟨(none, 0), rfl, h.nilRow 9 1, trivial⟩
  · refine GC.skip ?_
    refine GX.then ?_
    refine GC.seq ?_
    refine GC.reg ?_
    refine GL.step (ot_buildSlice ei_24 rfl rfl rfl rfl rfl rfl fun b5 => ?_)
    refine GL.st (fun w h => h.clRow (k := 0) (n' := 0) (sz := 1) rfl rfl (by omega)) ?_
    refine GL.val (rv_move rfl) rfl ?_
    refine GL.step (ot_append (k := 0) (news := us) ei_24 rfl rfl rfl (by omega) (fun w h => (h.rd0n hR).imp (fun e => by rw [e]; rfl) fun ⟨b, o, e1, e2⟩ => ⟨b, o, e1, e2⟩) h1 (by omega) (by decide) rfl fun A7 c7 z7 => ?_)
    refine GL.val (rv_assign rfl) rfl ?_
    refine GL.nil ?_
    refine GX.then ?_
    refine GC.ret ?_
    refine GX.ret1 rfl (RR.tmp rfl) ?_
    exact fun w h => ⟨(A7, c7), by rw [Nat.zero_add], by simpa using h, trivial⟩

/-- the cache at an address: what it may hold, its keys with their values, how often one was there, and not -/
def CcP (p : Nat) (most : Int) (kv : List (ByteArray × Int)) (h s : Int) : Pc :=
  exP fun g : (Option Addr × Nat) × (Option Addr × Nat) => grp [
    .cl p [.int .i64 most, .slice g.1.1 kv.length g.1.2, .slice g.2.1 kv.length g.2.2, .int .i64 h, .int .i64 s] 55,
    .row g.1.1 g.1.2 9 1 kv.length (kv.map fun q => .string q.1),
    .row g.2.1 g.2.2 3 1 kv.length (kv.map fun q => .int .i64 q.2)]
theorem GC.cc {X : Cx} {c : Code} {Q : Exit → Act → World → Prop} {L : List (Nat × Value)} {Fs : List Pc} {p : Nat} {most h s : Int} {kv : List (ByteArray × Int)}
    (k : ∀ A1 c1 A2 c2, GC X c Q L (.cl p [.int .i64 most, .slice A1 kv.length c1, .slice A2 kv.length c2, .int .i64 h, .int .i64 s] 55 :: .row A1 c1 9 1 kv.length (kv.map fun q => .string q.1) :: .row A2 c2 3 1 kv.length (kv.map fun q => .int .i64 q.2) :: Fs)) : GC X c Q L (CcP p most kv h s :: Fs) := fun w a hs hf => by
  obtain ⟨g, h1⟩ := hs.unex
  exact k g.1.1 g.1.2 g.2.1 g.2.2 w a h1.ungrp hf
theorem St.cc {K : Nat → Prop} {w0 w : World} {Fs : List Pc} {p : Nat} {most h s : Int} {kv : List (ByteArray × Int)} {A1 A2 : Option Addr} {c1 c2 : Nat}
    (hs : St K w0 w (.cl p [.int .i64 most, .slice A1 kv.length c1, .slice A2 kv.length c2, .int .i64 h, .int .i64 s] 55 :: .row A1 c1 9 1 kv.length (kv.map fun q => .string q.1) :: .row A2 c2 3 1 kv.length (kv.map fun q => .int .i64 q.2) :: Fs)) : St K w0 w (CcP p most kv h s :: Fs) :=
  St.ex ((A1, c1), (A2, c2)) (St.grp (Gs := [_, _, _]) hs)
theorem er_len {α : Type} {kv : List α} {i : Nat} (hi : i < kv.length) : kv.length - (i + 1 - i) = (kv.eraseIdx i).length := by rw [List.length_eraseIdx_of_lt hi]; omega
theorem er_map {α β : Type} (f : α → β) (kv : List α) (i : Nat) : (kv.map f).take (i * 1) ++ (kv.map f).drop ((i + 1) * 1) = (kv.eraseIdx i).map f := by
  rw [List.eraseIdx_eq_take_drop_succ]; simp
theorem str_all (kv : List (ByteArray × Int)) : (kv.map fun q => Value.string q.1).all Value.oneCell' = true := by simp [Value.oneCell']
theorem int_all (kv : List (ByteArray × Int)) : (kv.map fun q => Value.int .i64 q.2).all Value.oneCell' = true := by simp [Value.oneCell']

set_option maxRecDepth 100000 in
set_option maxHeartbeats 1000000 in
theorem count_c (p : Nat) (m h s : Int) (kv : List (ByteArray × Int)) (w : World) (S : Nat → Prop) (hA : (CcP p m kv h s).A S w) (hb : ∀ b, S b → b < w.heap.size) :
    Calls Try.prog 13 [.pointer (some ⟨p, 0, none⟩)].toArray w fun e w' => ∃ _g : Unit, e = .returned (.tuple #[.int .i64 h, .int .i64 s]) ∧ St S w w' [CcP p m kv h s] ∧ True := by
  refine GC.calls Try.func13 rfl rfl (St.begin1 hA hb) ?_
  refine GC.cc fun A1 c1 A2 c2 => ?_
  refine GC.seq ?_
  refine GC.reg ?_
  refine GL.val (rv_assign rfl) rfl ?_
  refine GL.val (rv_assign rfl) rfl ?_
  refine GL.nil ?_
  refine GX.then ?_
  refine GC.seq ?_
  refine GC.draw 10 [0] mo_ ?_
  refine GD.pure (i := 0) rfl (fun _ _ => rv_move rfl) (by kernel_rfl) (by repeat (first | exact noPanicPut_body | exact noPanicPut_cut | exact noPanicPut_cutE | refine noPanicPut_then ?_ | refine noPanicPut_blk ?_)) ?_
  refine GD.pure (i := 1) rfl (fun _ _ => rv_nil rfl) (by kernel_rfl) (by repeat (first | exact noPanicPut_body | exact noPanicPut_cut | exact noPanicPut_cutE | refine noPanicPut_then ?_ | refine noPanicPut_blk ?_)) ?_
  refine GD.pure (i := 2) rfl (fun _ _ => rv_field fo_55_3 rfl rfl) (by kernel_rfl) (by repeat (first | exact noPanicPut_body | exact noPanicPut_cut | exact noPanicPut_cutE | refine noPanicPut_then ?_ | refine noPanicPut_blk ?_)) ?_
  refine GD.pure (i := 4) rfl (fun _ _ => rv_move rfl) (by kernel_rfl) (by repeat (first | exact noPanicPut_body | exact noPanicPut_cut | exact noPanicPut_cutE | refine noPanicPut_then ?_ | refine noPanicPut_blk ?_)) ?_
  refine GD.pure (i := 5) rfl (fun _ _ => rv_nil rfl) (by kernel_rfl) (by repeat (first | exact noPanicPut_body | exact noPanicPut_cut | exact noPanicPut_cutE | refine noPanicPut_then ?_ | refine noPanicPut_blk ?_)) ?_
  refine GD.pure (i := 6) rfl (fun _ _ => rv_field fo_55_4 rfl rfl) (by kernel_rfl) (by repeat (first | exact noPanicPut_body | exact noPanicPut_cut | exact noPanicPut_cutE | refine noPanicPut_then ?_ | refine noPanicPut_blk ?_)) ?_
  refine GD.read (i := 3) rfl (rv_load ag_3 rfl (by first | exact Hd.cell (k := 0) rfl rfl | exact Hd.rowCell (k := 0) rfl (by assumption) | exact Hd.cell0 (by assumption) (by first | exact fun h => h | assumption))) (by kernel_rfl) (by repeat (first | exact noPanicPut_body | exact noPanicPut_cut | exact noPanicPut_cutE | refine noPanicPut_then ?_ | refine noPanicPut_blk ?_)) ?_
  refine GD.pure (i := 8) rfl (fun _ _ => rv_assign rfl) (by kernel_rfl) (by repeat (first | exact noPanicPut_body | exact noPanicPut_cut | exact noPanicPut_cutE | refine noPanicPut_then ?_ | refine noPanicPut_blk ?_)) ?_
  refine GD.read (i := 7) rfl (rv_load ag_3 rfl (by first | exact Hd.cell (k := 0) rfl rfl | exact Hd.rowCell (k := 0) rfl (by assumption) | exact Hd.cell0 (by assumption) (by first | exact fun h => h | assumption))) (by kernel_rfl) (by repeat (first | exact noPanicPut_body | exact noPanicPut_cut | exact noPanicPut_cutE | refine noPanicPut_then ?_ | refine noPanicPut_blk ?_)) ?_
  refine GD.pure (i := 9) rfl (fun _ _ => rv_assign rfl) (by kernel_rfl) (by repeat (first | exact noPanicPut_body | exact noPanicPut_cut | exact noPanicPut_cutE | refine noPanicPut_then ?_ | refine noPanicPut_blk ?_)) ?_
  refine GD.done (by kernel_rfl) ?_
  refine GX.then ?_
  refine GC.ret ?_
  refine GX.ret2 rfl (RR.tmp rfl) (RR.tmp rfl) ?_
  exact fun w h => ⟨(), rfl, St.cc h, trivial⟩
set_option maxRecDepth 100000 in
set_option maxHeartbeats 1000000 in
theorem take_c (p i : Nat) (m h s : Int) (kv : List (ByteArray × Int)) (w : World) (S : Nat → Prop) (hA : (CcP p m kv h s).A S w) (hb : ∀ b, S b → b < w.heap.size) (hi : i < kv.length) (hn : kv.length ≤ 1000000) :
    Calls Try.prog 24 [.pointer (some ⟨p, 0, none⟩), .int .i64 (i : Int)].toArray w fun e w' => ∃ _g : Unit, e = .returned (.tuple #[.string kv[i].1, .int .i64 kv[i].2]) ∧ St S w w' [CcP p m (kv.eraseIdx i) h s] ∧ True := by
  refine GC.calls Try.func24 rfl rfl (St.begin1 hA hb) ?_
  refine GC.cc fun A1 c1 A2 c2 => ?_
  refine GC.rowForm (k := 1) rfl fun _ hc1 hf1 => ?_
  refine GC.rowForm (k := 2) rfl fun _ hc2 hf2 => ?_
  obtain ⟨b1, rfl⟩ := hf1.resolve_left (by omega)
  obtain ⟨b2, rfl⟩ := hf2.resolve_left (by omega)
  refine GC.seq ?_
  refine GC.reg ?_
  refine GL.val (rv_assign rfl) rfl ?_
  refine GL.val (rv_assign rfl) rfl ?_
  refine GL.nil ?_
  refine GX.then ?_
  refine GC.seq ?_
  refine GC.draw 16 [0, 1, 2] mo_ ?_
  refine GD.pure (i := 0) rfl (fun _ _ => rv_move rfl) (by kernel_rfl) (by repeat (first | exact noPanicPut_body | exact noPanicPut_cut | exact noPanicPut_cutE | refine noPanicPut_then ?_ | refine noPanicPut_blk ?_)) ?_
  refine GD.pure (i := 1) rfl (fun _ _ => rv_nil rfl) (by kernel_rfl) (by repeat (first | exact noPanicPut_body | exact noPanicPut_cut | exact noPanicPut_cutE | refine noPanicPut_then ?_ | refine noPanicPut_blk ?_)) ?_
  refine GD.pure (i := 2) rfl (fun _ _ => rv_field fo_55_1 rfl rfl) (by kernel_rfl) (by repeat (first | exact noPanicPut_body | exact noPanicPut_cut | exact noPanicPut_cutE | refine noPanicPut_then ?_ | refine noPanicPut_blk ?_)) ?_
  refine GD.pure (i := 4) rfl (fun _ _ => rv_move rfl) (by kernel_rfl) (by repeat (first | exact noPanicPut_body | exact noPanicPut_cut | exact noPanicPut_cutE | refine noPanicPut_then ?_ | refine noPanicPut_blk ?_)) ?_
  refine GD.pure (i := 7) rfl (fun _ _ => rv_move rfl) (by kernel_rfl) (by repeat (first | exact noPanicPut_body | exact noPanicPut_cut | exact noPanicPut_cutE | refine noPanicPut_then ?_ | refine noPanicPut_blk ?_)) ?_
  refine GD.pure (i := 8) rfl (fun _ _ => rv_nil rfl) (by kernel_rfl) (by repeat (first | exact noPanicPut_body | exact noPanicPut_cut | exact noPanicPut_cutE | refine noPanicPut_then ?_ | refine noPanicPut_blk ?_)) ?_
  refine GD.pure (i := 9) rfl (fun _ _ => rv_field fo_55_2 rfl rfl) (by kernel_rfl) (by repeat (first | exact noPanicPut_body | exact noPanicPut_cut | exact noPanicPut_cutE | refine noPanicPut_then ?_ | refine noPanicPut_blk ?_)) ?_
  refine GD.pure (i := 11) rfl (fun _ _ => rv_move rfl) (by kernel_rfl) (by repeat (first | exact noPanicPut_body | exact noPanicPut_cut | exact noPanicPut_cutE | refine noPanicPut_then ?_ | refine noPanicPut_blk ?_)) ?_
  refine GD.read (i := 3) rfl (rv_load ag_24 rfl (by first | exact Hd.cell (k := 0) rfl rfl | exact Hd.cell (k := 1) rfl rfl | exact Hd.cell (k := 2) rfl rfl | exact Hd.rowCell (k := 0) rfl (by assumption) | exact Hd.rowCell (k := 1) rfl (by assumption) | exact Hd.rowCell (k := 2) rfl (by assumption) | exact Hd.cell0 (by assumption) (by first | exact fun h => h | assumption))) (by kernel_rfl) (by repeat (first | exact noPanicPut_body | exact noPanicPut_cut | exact noPanicPut_cutE | refine noPanicPut_then ?_ | refine noPanicPut_blk ?_)) ?_
  refine GD.pure (i := 5) rfl (fun _ _ => rv_elem es_24 rfl rfl (by omega) (by omega)) (by kernel_rfl) (by repeat (first | exact noPanicPut_body | exact noPanicPut_cut | exact noPanicPut_cutE | refine noPanicPut_then ?_ | refine noPanicPut_blk ?_)) ?_
  refine GD.read (i := 6) rfl (rv_load ag_9 rfl (Hd.rowCell (k := 1) (u := .string kv[i].1) rfl (by simp [hi]))) (by kernel_rfl) (by repeat (first | exact noPanicPut_body | exact noPanicPut_cut | exact noPanicPut_cutE | refine noPanicPut_then ?_ | refine noPanicPut_blk ?_)) ?_
  refine GD.pure (i := 14) rfl (fun _ _ => rv_assign rfl) (by kernel_rfl) (by repeat (first | exact noPanicPut_body | exact noPanicPut_cut | exact noPanicPut_cutE | refine noPanicPut_then ?_ | refine noPanicPut_blk ?_)) ?_
  refine GD.read (i := 10) rfl (rv_load ag_25 rfl (by first | exact Hd.cell (k := 0) rfl rfl | exact Hd.cell (k := 1) rfl rfl | exact Hd.cell (k := 2) rfl rfl | exact Hd.rowCell (k := 0) rfl (by assumption) | exact Hd.rowCell (k := 1) rfl (by assumption) | exact Hd.rowCell (k := 2) rfl (by assumption) | exact Hd.cell0 (by assumption) (by first | exact fun h => h | assumption))) (by kernel_rfl) (by repeat (first | exact noPanicPut_body | exact noPanicPut_cut | exact noPanicPut_cutE | refine noPanicPut_then ?_ | refine noPanicPut_blk ?_)) ?_
  refine GD.pure (i := 12) rfl (fun _ _ => rv_elem es_25 rfl rfl (by omega) (by omega)) (by kernel_rfl) (by repeat (first | exact noPanicPut_body | exact noPanicPut_cut | exact noPanicPut_cutE | refine noPanicPut_then ?_ | refine noPanicPut_blk ?_)) ?_
  refine GD.read (i := 13) rfl (rv_load ag_3 rfl (Hd.rowCell (k := 2) (u := .int .i64 kv[i].2) rfl (by simp [hi]))) (by kernel_rfl) (by repeat (first | exact noPanicPut_body | exact noPanicPut_cut | exact noPanicPut_cutE | refine noPanicPut_then ?_ | refine noPanicPut_blk ?_)) ?_
  refine GD.pure (i := 15) rfl (fun _ _ => rv_assign rfl) (by kernel_rfl) (by repeat (first | exact noPanicPut_body | exact noPanicPut_cut | exact noPanicPut_cutE | refine noPanicPut_then ?_ | refine noPanicPut_blk ?_)) ?_
  refine GD.done (by kernel_rfl) ?_
  refine GX.then ?_
  refine GC.seq ?_
  refine GC.draw 20 [0] mo_ ?_
  refine GD.pure (i := 0) rfl (fun _ _ => rv_move rfl) (by kernel_rfl) (by repeat (first | exact noPanicPut_body | exact noPanicPut_cut | exact noPanicPut_cutE | refine noPanicPut_then ?_ | refine noPanicPut_blk ?_)) ?_
  refine GD.pure (i := 1) rfl (fun _ _ => rv_move rfl) (by kernel_rfl) (by repeat (first | exact noPanicPut_body | exact noPanicPut_cut | exact noPanicPut_cutE | refine noPanicPut_then ?_ | refine noPanicPut_blk ?_)) ?_
  refine GD.pure (i := 2) rfl (fun _ _ => rv_move rfl) (by kernel_rfl) (by repeat (first | exact noPanicPut_body | exact noPanicPut_cut | exact noPanicPut_cutE | refine noPanicPut_then ?_ | refine noPanicPut_blk ?_)) ?_
  refine GD.pure (i := 3) rfl (fun _ _ => rv_nil rfl) (by kernel_rfl) (by repeat (first | exact noPanicPut_body | exact noPanicPut_cut | exact noPanicPut_cutE | refine noPanicPut_then ?_ | refine noPanicPut_blk ?_)) ?_
  refine GD.pure (i := 4) rfl (fun _ _ => rv_field fo_55_1 rfl rfl) (by kernel_rfl) (by repeat (first | exact noPanicPut_body | exact noPanicPut_cut | exact noPanicPut_cutE | refine noPanicPut_then ?_ | refine noPanicPut_blk ?_)) ?_
  refine GD.pure (i := 6) rfl (fun _ _ => rv_move rfl) (by kernel_rfl) (by repeat (first | exact noPanicPut_body | exact noPanicPut_cut | exact noPanicPut_cutE | refine noPanicPut_then ?_ | refine noPanicPut_blk ?_)) ?_
  refine GD.pure (i := 7) rfl (fun _ _ => rv_move rfl) (by kernel_rfl) (by repeat (first | exact noPanicPut_body | exact noPanicPut_cut | exact noPanicPut_cutE | refine noPanicPut_then ?_ | refine noPanicPut_blk ?_)) ?_
  refine GD.pure (i := 8) rfl (fun _ _ => rv_add rfl rfl (by omega) (by omega)) (by kernel_rfl) (by repeat (first | exact noPanicPut_body | exact noPanicPut_cut | exact noPanicPut_cutE | refine noPanicPut_then ?_ | refine noPanicPut_blk ?_)) ?_
  refine GD.pure (i := 10) rfl (fun _ _ => rv_move rfl) (by kernel_rfl) (by repeat (first | exact noPanicPut_body | exact noPanicPut_cut | exact noPanicPut_cutE | refine noPanicPut_then ?_ | refine noPanicPut_blk ?_)) ?_
  refine GD.pure (i := 11) rfl (fun _ _ => rv_nil rfl) (by kernel_rfl) (by repeat (first | exact noPanicPut_body | exact noPanicPut_cut | exact noPanicPut_cutE | refine noPanicPut_then ?_ | refine noPanicPut_blk ?_)) ?_
  refine GD.pure (i := 12) rfl (fun _ _ => rv_field fo_55_2 rfl rfl) (by kernel_rfl) (by repeat (first | exact noPanicPut_body | exact noPanicPut_cut | exact noPanicPut_cutE | refine noPanicPut_then ?_ | refine noPanicPut_blk ?_)) ?_
  refine GD.pure (i := 14) rfl (fun _ _ => rv_move rfl) (by kernel_rfl) (by repeat (first | exact noPanicPut_body | exact noPanicPut_cut | exact noPanicPut_cutE | refine noPanicPut_then ?_ | refine noPanicPut_blk ?_)) ?_
  refine GD.pure (i := 15) rfl (fun _ _ => rv_move rfl) (by kernel_rfl) (by repeat (first | exact noPanicPut_body | exact noPanicPut_cut | exact noPanicPut_cutE | refine noPanicPut_then ?_ | refine noPanicPut_blk ?_)) ?_
  refine GD.pure (i := 16) rfl (fun _ _ => rv_add rfl rfl (by omega) (by omega)) (by kernel_rfl) (by repeat (first | exact noPanicPut_body | exact noPanicPut_cut | exact noPanicPut_cutE | refine noPanicPut_then ?_ | refine noPanicPut_blk ?_)) ?_
  refine GD.read (i := 5) rfl (rv_load ag_24 rfl (by first | exact Hd.cell (k := 0) rfl rfl | exact Hd.rowCell (k := 0) rfl (by assumption) | exact Hd.cell0 (by assumption) (by first | exact fun h => h | assumption))) (by kernel_rfl) (by repeat (first | exact noPanicPut_body | exact noPanicPut_cut | exact noPanicPut_cutE | refine noPanicPut_then ?_ | refine noPanicPut_blk ?_)) ?_
  refine GD.read (i := 13) rfl (rv_load ag_25 rfl (by first | exact Hd.cell (k := 0) rfl rfl | exact Hd.rowCell (k := 0) rfl (by assumption) | exact Hd.cell0 (by assumption) (by first | exact fun h => h | assumption))) (by kernel_rfl) (by repeat (first | exact noPanicPut_body | exact noPanicPut_cut | exact noPanicPut_cutE | refine noPanicPut_then ?_ | refine noPanicPut_blk ?_)) ?_
  refine GD.step (i := 9) (by kernel_rfl) rfl (ot_call hb_29 rfl (callOkM (k := 1) rfl fun w S _ hA hb => deleteS_c b1 c1 kv.length i (i + 1) _ w S hA hb (by omega) (by omega) (str_all kv)) rfl fun _ _ => ⟨.inr fun _ h => h.pk [1], ?_⟩)
  refine GD.step (i := 17) (by kernel_rfl) rfl (ot_call hb_30 rfl (callOkM (k := 2) rfl fun w S _ hA hb => deleteI_c b2 c2 kv.length i (i + 1) _ w S hA hb (by omega) (by omega) (int_all kv)) rfl fun _ _ => ⟨.inr fun _ h => h.pk [2], ?_⟩)
  refine GD.pure (i := 18) rfl (fun _ _ => rv_nil rfl) (by kernel_rfl) (by repeat (first | exact noPanicPut_body | exact noPanicPut_cut | exact noPanicPut_cutE | refine noPanicPut_then ?_ | refine noPanicPut_blk ?_)) ?_
  refine GD.pure (i := 19) rfl (fun _ _ => rv_field fo_55_1 rfl rfl) (by kernel_rfl) (by repeat (first | exact noPanicPut_body | exact noPanicPut_cut | exact noPanicPut_cutE | refine noPanicPut_then ?_ | refine noPanicPut_blk ?_)) ?_
  first | refine GD.step (i := 20) (by kernel_rfl) rfl (ot_store (k := 0) rfl rfl rfl rfl sz_24 rfl rfl (by first | ((simp only [repl, List.set_cons_zero, List.set_cons_succ]) <;> rfl) | rfl) ⟨.inl rfl, ?_⟩) | refine GD.step (i := 20) (by kernel_rfl) rfl (ot_store (k := 1) rfl rfl rfl rfl sz_24 rfl rfl (by first | ((simp only [repl, List.set_cons_zero, List.set_cons_succ]) <;> rfl) | rfl) ⟨.inl rfl, ?_⟩) | refine GD.step (i := 20) (by kernel_rfl) rfl (ot_store (k := 2) rfl rfl rfl rfl sz_24 rfl rfl (by first | ((simp only [repl, List.set_cons_zero, List.set_cons_succ]) <;> rfl) | rfl) ⟨.inl rfl, ?_⟩)
  refine GD.pure (i := 21) rfl (fun _ _ => rv_nil rfl) (by kernel_rfl) (by repeat (first | exact noPanicPut_body | exact noPanicPut_cut | exact noPanicPut_cutE | refine noPanicPut_then ?_ | refine noPanicPut_blk ?_)) ?_
  refine GD.pure (i := 22) rfl (fun _ _ => rv_field fo_55_2 rfl rfl) (by kernel_rfl) (by repeat (first | exact noPanicPut_body | exact noPanicPut_cut | exact noPanicPut_cutE | refine noPanicPut_then ?_ | refine noPanicPut_blk ?_)) ?_
  first | refine GD.step (i := 23) (by kernel_rfl) rfl (ot_store (k := 0) rfl rfl rfl rfl sz_25 rfl rfl (by first | ((simp only [repl, List.set_cons_zero, List.set_cons_succ]) <;> rfl) | rfl) ⟨.inl rfl, ?_⟩) | refine GD.step (i := 23) (by kernel_rfl) rfl (ot_store (k := 1) rfl rfl rfl rfl sz_25 rfl rfl (by first | ((simp only [repl, List.set_cons_zero, List.set_cons_succ]) <;> rfl) | rfl) ⟨.inl rfl, ?_⟩) | refine GD.step (i := 23) (by kernel_rfl) rfl (ot_store (k := 2) rfl rfl rfl rfl sz_25 rfl rfl (by first | ((simp only [repl, List.set_cons_zero, List.set_cons_succ]) <;> rfl) | rfl) ⟨.inl rfl, ?_⟩)
  refine GD.done (by kernel_rfl) ?_
  refine GX.then ?_
  refine GC.seq ?_
  refine GC.reg ?_
  refine GL.val (rv_move rfl) rfl ?_
  refine GL.val (rv_move rfl) rfl ?_
  refine GL.val (rv_assign rfl) rfl ?_
  refine GL.val (rv_assign rfl) rfl ?_
  refine GL.nil ?_
  refine GX.then ?_
  refine GC.ret ?_
  refine GX.ret2 rfl (RR.tmp rfl) (RR.tmp rfl) ?_
  exact fun w h => by
    have h2 := (h.pull (k := 1) rfl).pull (k := 2) rfl
    simp only [er_len hi, er_map] at h2
    exact ⟨(), rfl, St.cc h2, trivial⟩
set_option maxRecDepth 100000 in
set_option maxHeartbeats 1000000 in
theorem last_c (p : Nat) (m h s v : Int) (k : ByteArray) (kv : List (ByteArray × Int)) (w : World) (S : Nat → Prop) (hA : (CcP p m kv h s).A S w) (hb : ∀ b, S b → b < w.heap.size) (hn : kv.length ≤ 1000000) :
    Calls Try.prog 25 [.pointer (some ⟨p, 0, none⟩), .string k, .int .i64 v].toArray w fun e w' => ∃ _g : Unit, e = .returned (.tuple #[]) ∧ St S w w' [CcP p m (kv ++ [(k, v)]) h s] ∧ True := by
  refine GC.calls Try.func25 rfl rfl (St.begin1 hA hb) ?_
  refine GC.cc fun A1 c1 A2 c2 => ?_
  refine GC.draw 18 [0] mo_ ?_
  refine GD.pure (i := 0) rfl (fun _ _ => rv_move rfl) (by kernel_rfl) (by repeat (first | exact noPanicPut_body | exact noPanicPut_cut | exact noPanicPut_cutE | refine noPanicPut_then ?_ | refine noPanicPut_blk ?_)) ?_
  refine GD.pure (i := 1) rfl (fun _ _ => rv_move rfl) (by kernel_rfl) (by repeat (first | exact noPanicPut_body | exact noPanicPut_cut | exact noPanicPut_cutE | refine noPanicPut_then ?_ | refine noPanicPut_blk ?_)) ?_
  refine GD.pure (i := 2) rfl (fun _ _ => rv_move rfl) (by kernel_rfl) (by repeat (first | exact noPanicPut_body | exact noPanicPut_cut | exact noPanicPut_cutE | refine noPanicPut_then ?_ | refine noPanicPut_blk ?_)) ?_
  refine GD.pure (i := 3) rfl (fun _ _ => rv_nil rfl) (by kernel_rfl) (by repeat (first | exact noPanicPut_body | exact noPanicPut_cut | exact noPanicPut_cutE | refine noPanicPut_then ?_ | refine noPanicPut_blk ?_)) ?_
  refine GD.pure (i := 4) rfl (fun _ _ => rv_field fo_55_1 rfl rfl) (by kernel_rfl) (by repeat (first | exact noPanicPut_body | exact noPanicPut_cut | exact noPanicPut_cutE | refine noPanicPut_then ?_ | refine noPanicPut_blk ?_)) ?_
  refine GD.pure (i := 6) rfl (fun _ _ => rv_move rfl) (by kernel_rfl) (by repeat (first | exact noPanicPut_body | exact noPanicPut_cut | exact noPanicPut_cutE | refine noPanicPut_then ?_ | refine noPanicPut_blk ?_)) ?_
  refine GD.pure (i := 9) rfl (fun _ _ => rv_move rfl) (by kernel_rfl) (by repeat (first | exact noPanicPut_body | exact noPanicPut_cut | exact noPanicPut_cutE | refine noPanicPut_then ?_ | refine noPanicPut_blk ?_)) ?_
  refine GD.pure (i := 10) rfl (fun _ _ => rv_nil rfl) (by kernel_rfl) (by repeat (first | exact noPanicPut_body | exact noPanicPut_cut | exact noPanicPut_cutE | refine noPanicPut_then ?_ | refine noPanicPut_blk ?_)) ?_
  refine GD.pure (i := 11) rfl (fun _ _ => rv_field fo_55_2 rfl rfl) (by kernel_rfl) (by repeat (first | exact noPanicPut_body | exact noPanicPut_cut | exact noPanicPut_cutE | refine noPanicPut_then ?_ | refine noPanicPut_blk ?_)) ?_
  refine GD.pure (i := 13) rfl (fun _ _ => rv_move rfl) (by kernel_rfl) (by repeat (first | exact noPanicPut_body | exact noPanicPut_cut | exact noPanicPut_cutE | refine noPanicPut_then ?_ | refine noPanicPut_blk ?_)) ?_
  refine GD.read (i := 5) rfl (rv_load ag_24 rfl (by first | exact Hd.cell (k := 0) rfl rfl | exact Hd.rowCell (k := 0) rfl (by assumption) | exact Hd.cell0 (by assumption) (by first | exact fun h => h | assumption))) (by kernel_rfl) (by repeat (first | exact noPanicPut_body | exact noPanicPut_cut | exact noPanicPut_cutE | refine noPanicPut_then ?_ | refine noPanicPut_blk ?_)) ?_
  refine GD.read (i := 12) rfl (rv_load ag_25 rfl (by first | exact Hd.cell (k := 0) rfl rfl | exact Hd.rowCell (k := 0) rfl (by assumption) | exact Hd.cell0 (by assumption) (by first | exact fun h => h | assumption))) (by kernel_rfl) (by repeat (first | exact noPanicPut_body | exact noPanicPut_cut | exact noPanicPut_cutE | refine noPanicPut_then ?_ | refine noPanicPut_blk ?_)) ?_
  refine GD.each2 (i := 7) (j := 14) (by kernel_rfl) rfl rfl ?_ ?_
  · refine ot_buildSlice ei_24 rfl rfl rfl rfl rfl rfl fun b13 => ⟨.inr fun _ h => h.pk [1], ?_⟩
    refine GD.each2 (i := 8) (j := 14) (by kernel_rfl) rfl rfl ?_ ?_
    · first | refine ot_append (k := 1) ei_24 rfl rfl rfl (by rfl) (fun w h => .inr ⟨_, _, rfl, Hd.cellsAll (k := 0) rfl w h⟩) (by rfl) (by omega) (by decide) rfl fun A14 c14 z14 => ⟨.inr fun _ h => h.pk [1], ?_⟩ | refine ot_append (k := 2) ei_24 rfl rfl rfl (by rfl) (fun w h => .inr ⟨_, _, rfl, Hd.cellsAll (k := 0) rfl w h⟩) (by rfl) (by omega) (by decide) rfl fun A14 c14 z14 => ⟨.inr fun _ h => h.pk [1], ?_⟩ | refine ot_append (k := 3) ei_24 rfl rfl rfl (by rfl) (fun w h => .inr ⟨_, _, rfl, Hd.cellsAll (k := 0) rfl w h⟩) (by rfl) (by omega) (by decide) rfl fun A14 c14 z14 => ⟨.inr fun _ h => h.pk [1], ?_⟩ | refine ot_append (k := 0) ei_24 rfl rfl rfl (by rfl) (fun w h => .inr ⟨_, _, rfl, Hd.cellsAll (k := 1) rfl w h⟩) (by rfl) (by omega) (by decide) rfl fun A14 c14 z14 => ⟨.inr fun _ h => h.pk [1], ?_⟩ | refine ot_append (k := 2) ei_24 rfl rfl rfl (by rfl) (fun w h => .inr ⟨_, _, rfl, Hd.cellsAll (k := 1) rfl w h⟩) (by rfl) (by omega) (by decide) rfl fun A14 c14 z14 => ⟨.inr fun _ h => h.pk [1], ?_⟩ | refine ot_append (k := 3) ei_24 rfl rfl rfl (by rfl) (fun w h => .inr ⟨_, _, rfl, Hd.cellsAll (k := 1) rfl w h⟩) (by rfl) (by omega) (by decide) rfl fun A14 c14 z14 => ⟨.inr fun _ h => h.pk [1], ?_⟩
      refine GD.step (i := 14) (by kernel_rfl) rfl (ot_buildSlice ei_25 rfl rfl rfl rfl rfl rfl fun b20 => ⟨.inr fun _ h => h.pk [2], ?_⟩)
      first | refine GD.step (i := 15) (by kernel_rfl) rfl (ot_append (k := 1) ei_25 rfl rfl rfl (by rfl) (fun w h => .inr ⟨_, _, rfl, Hd.cellsAll (k := 0) rfl w h⟩) (by rfl) (by omega) (by decide) rfl fun A21 c21 z21 => ⟨.inr fun _ h => h.pk [2], ?_⟩) | refine GD.step (i := 15) (by kernel_rfl) rfl (ot_append (k := 2) ei_25 rfl rfl rfl (by rfl) (fun w h => .inr ⟨_, _, rfl, Hd.cellsAll (k := 0) rfl w h⟩) (by rfl) (by omega) (by decide) rfl fun A21 c21 z21 => ⟨.inr fun _ h => h.pk [2], ?_⟩) | refine GD.step (i := 15) (by kernel_rfl) rfl (ot_append (k := 3) ei_25 rfl rfl rfl (by rfl) (fun w h => .inr ⟨_, _, rfl, Hd.cellsAll (k := 0) rfl w h⟩) (by rfl) (by omega) (by decide) rfl fun A21 c21 z21 => ⟨.inr fun _ h => h.pk [2], ?_⟩) | refine GD.step (i := 15) (by kernel_rfl) rfl (ot_append (k := 4) ei_25 rfl rfl rfl (by rfl) (fun w h => .inr ⟨_, _, rfl, Hd.cellsAll (k := 0) rfl w h⟩) (by rfl) (by omega) (by decide) rfl fun A21 c21 z21 => ⟨.inr fun _ h => h.pk [2], ?_⟩) | refine GD.step (i := 15) (by kernel_rfl) rfl (ot_append (k := 0) ei_25 rfl rfl rfl (by rfl) (fun w h => .inr ⟨_, _, rfl, Hd.cellsAll (k := 1) rfl w h⟩) (by rfl) (by omega) (by decide) rfl fun A21 c21 z21 => ⟨.inr fun _ h => h.pk [2], ?_⟩) | refine GD.step (i := 15) (by kernel_rfl) rfl (ot_append (k := 2) ei_25 rfl rfl rfl (by rfl) (fun w h => .inr ⟨_, _, rfl, Hd.cellsAll (k := 1) rfl w h⟩) (by rfl) (by omega) (by decide) rfl fun A21 c21 z21 => ⟨.inr fun _ h => h.pk [2], ?_⟩) | refine GD.step (i := 15) (by kernel_rfl) rfl (ot_append (k := 3) ei_25 rfl rfl rfl (by rfl) (fun w h => .inr ⟨_, _, rfl, Hd.cellsAll (k := 1) rfl w h⟩) (by rfl) (by omega) (by decide) rfl fun A21 c21 z21 => ⟨.inr fun _ h => h.pk [2], ?_⟩) | refine GD.step (i := 15) (by kernel_rfl) rfl (ot_append (k := 4) ei_25 rfl rfl rfl (by rfl) (fun w h => .inr ⟨_, _, rfl, Hd.cellsAll (k := 1) rfl w h⟩) (by rfl) (by omega) (by decide) rfl fun A21 c21 z21 => ⟨.inr fun _ h => h.pk [2], ?_⟩)
      refine GD.pure (i := 16) rfl (fun _ _ => rv_nil rfl) (by kernel_rfl) (by repeat (first | exact noPanicPut_body | exact noPanicPut_cut | exact noPanicPut_cutE | refine noPanicPut_then ?_ | refine noPanicPut_blk ?_)) ?_
      refine GD.pure (i := 17) rfl (fun _ _ => rv_field fo_55_1 rfl rfl) (by kernel_rfl) (by repeat (first | exact noPanicPut_body | exact noPanicPut_cut | exact noPanicPut_cutE | refine noPanicPut_then ?_ | refine noPanicPut_blk ?_)) ?_
      first | refine GD.step (i := 18) (by kernel_rfl) rfl (ot_store (k := 0) rfl rfl rfl rfl sz_24 rfl rfl (by first | ((simp only [repl, List.set_cons_zero, List.set_cons_succ]) <;> rfl) | rfl) ⟨.inl rfl, ?_⟩) | refine GD.step (i := 18) (by kernel_rfl) rfl (ot_store (k := 1) rfl rfl rfl rfl sz_24 rfl rfl (by first | ((simp only [repl, List.set_cons_zero, List.set_cons_succ]) <;> rfl) | rfl) ⟨.inl rfl, ?_⟩) | refine GD.step (i := 18) (by kernel_rfl) rfl (ot_store (k := 2) rfl rfl rfl rfl sz_24 rfl rfl (by first | ((simp only [repl, List.set_cons_zero, List.set_cons_succ]) <;> rfl) | rfl) ⟨.inl rfl, ?_⟩) | refine GD.step (i := 18) (by kernel_rfl) rfl (ot_store (k := 3) rfl rfl rfl rfl sz_24 rfl rfl (by first | ((simp only [repl, List.set_cons_zero, List.set_cons_succ]) <;> rfl) | rfl) ⟨.inl rfl, ?_⟩) | refine GD.step (i := 18) (by kernel_rfl) rfl (ot_store (k := 4) rfl rfl rfl rfl sz_24 rfl rfl (by first | ((simp only [repl, List.set_cons_zero, List.set_cons_succ]) <;> rfl) | rfl) ⟨.inl rfl, ?_⟩)
      refine GD.pure (i := 19) rfl (fun _ _ => rv_nil rfl) (by kernel_rfl) (by repeat (first | exact noPanicPut_body | exact noPanicPut_cut | exact noPanicPut_cutE | refine noPanicPut_then ?_ | refine noPanicPut_blk ?_)) ?_
      refine GD.pure (i := 20) rfl (fun _ _ => rv_field fo_55_2 rfl rfl) (by kernel_rfl) (by repeat (first | exact noPanicPut_body | exact noPanicPut_cut | exact noPanicPut_cutE | refine noPanicPut_then ?_ | refine noPanicPut_blk ?_)) ?_
      first | refine GD.step (i := 21) (by kernel_rfl) rfl (ot_store (k := 0) rfl rfl rfl rfl sz_25 rfl rfl (by first | ((simp only [repl, List.set_cons_zero, List.set_cons_succ]) <;> rfl) | rfl) ⟨.inl rfl, ?_⟩) | refine GD.step (i := 21) (by kernel_rfl) rfl (ot_store (k := 1) rfl rfl rfl rfl sz_25 rfl rfl (by first | ((simp only [repl, List.set_cons_zero, List.set_cons_succ]) <;> rfl) | rfl) ⟨.inl rfl, ?_⟩) | refine GD.step (i := 21) (by kernel_rfl) rfl (ot_store (k := 2) rfl rfl rfl rfl sz_25 rfl rfl (by first | ((simp only [repl, List.set_cons_zero, List.set_cons_succ]) <;> rfl) | rfl) ⟨.inl rfl, ?_⟩) | refine GD.step (i := 21) (by kernel_rfl) rfl (ot_store (k := 3) rfl rfl rfl rfl sz_25 rfl rfl (by first | ((simp only [repl, List.set_cons_zero, List.set_cons_succ]) <;> rfl) | rfl) ⟨.inl rfl, ?_⟩) | refine GD.step (i := 21) (by kernel_rfl) rfl (ot_store (k := 4) rfl rfl rfl rfl sz_25 rfl rfl (by first | ((simp only [repl, List.set_cons_zero, List.set_cons_succ]) <;> rfl) | rfl) ⟨.inl rfl, ?_⟩)
      refine GD.done (by kernel_rfl) ?_
      refine GX.end0 rfl ?_
      exact fun w1 hh => by
        have h2 : St S w w1 [.cl p [.int .i64 m, .slice A14 (kv ++ [(k, v)]).length c14, .slice A21 (kv ++ [(k, v)]).length c21, .int .i64 h, .int .i64 s] 55, .row A14 c14 9 1 (kv ++ [(k, v)]).length ((kv ++ [(k, v)]).map fun q => .string q.1), .row A21 c21 3 1 (kv ++ [(k, v)]).length ((kv ++ [(k, v)]).map fun q => .int .i64 q.2)] := by simpa [Value.cells] using (hh.drop 0).drop 0
        exact ⟨(), rfl, St.cc h2, trivial⟩
    · refine ot_buildSlice ei_25 rfl rfl rfl rfl rfl rfl fun b20 => ⟨.inr fun _ h => h.pk [2], ?_⟩
      first | refine GD.step (i := 8) (by kernel_rfl) rfl (ot_append (k := 1) ei_24 rfl rfl rfl (by rfl) (fun w h => .inr ⟨_, _, rfl, Hd.cellsAll (k := 0) rfl w h⟩) (by rfl) (by omega) (by decide) rfl fun A14 c14 z14 => ⟨.inr fun _ h => h.pk [2], ?_⟩) | refine GD.step (i := 8) (by kernel_rfl) rfl (ot_append (k := 2) ei_24 rfl rfl rfl (by rfl) (fun w h => .inr ⟨_, _, rfl, Hd.cellsAll (k := 0) rfl w h⟩) (by rfl) (by omega) (by decide) rfl fun A14 c14 z14 => ⟨.inr fun _ h => h.pk [2], ?_⟩) | refine GD.step (i := 8) (by kernel_rfl) rfl (ot_append (k := 3) ei_24 rfl rfl rfl (by rfl) (fun w h => .inr ⟨_, _, rfl, Hd.cellsAll (k := 0) rfl w h⟩) (by rfl) (by omega) (by decide) rfl fun A14 c14 z14 => ⟨.inr fun _ h => h.pk [2], ?_⟩) | refine GD.step (i := 8) (by kernel_rfl) rfl (ot_append (k := 4) ei_24 rfl rfl rfl (by rfl) (fun w h => .inr ⟨_, _, rfl, Hd.cellsAll (k := 0) rfl w h⟩) (by rfl) (by omega) (by decide) rfl fun A14 c14 z14 => ⟨.inr fun _ h => h.pk [2], ?_⟩) | refine GD.step (i := 8) (by kernel_rfl) rfl (ot_append (k := 0) ei_24 rfl rfl rfl (by rfl) (fun w h => .inr ⟨_, _, rfl, Hd.cellsAll (k := 1) rfl w h⟩) (by rfl) (by omega) (by decide) rfl fun A14 c14 z14 => ⟨.inr fun _ h => h.pk [2], ?_⟩) | refine GD.step (i := 8) (by kernel_rfl) rfl (ot_append (k := 2) ei_24 rfl rfl rfl (by rfl) (fun w h => .inr ⟨_, _, rfl, Hd.cellsAll (k := 1) rfl w h⟩) (by rfl) (by omega) (by decide) rfl fun A14 c14 z14 => ⟨.inr fun _ h => h.pk [2], ?_⟩) | refine GD.step (i := 8) (by kernel_rfl) rfl (ot_append (k := 3) ei_24 rfl rfl rfl (by rfl) (fun w h => .inr ⟨_, _, rfl, Hd.cellsAll (k := 1) rfl w h⟩) (by rfl) (by omega) (by decide) rfl fun A14 c14 z14 => ⟨.inr fun _ h => h.pk [2], ?_⟩) | refine GD.step (i := 8) (by kernel_rfl) rfl (ot_append (k := 4) ei_24 rfl rfl rfl (by rfl) (fun w h => .inr ⟨_, _, rfl, Hd.cellsAll (k := 1) rfl w h⟩) (by rfl) (by omega) (by decide) rfl fun A14 c14 z14 => ⟨.inr fun _ h => h.pk [2], ?_⟩)
      first | refine GD.step (i := 15) (by kernel_rfl) rfl (ot_append (k := 1) ei_25 rfl rfl rfl (by rfl) (fun w h => .inr ⟨_, _, rfl, Hd.cellsAll (k := 0) rfl w h⟩) (by rfl) (by omega) (by decide) rfl fun A21 c21 z21 => ⟨.inr fun _ h => h.pk [2], ?_⟩) | refine GD.step (i := 15) (by kernel_rfl) rfl (ot_append (k := 2) ei_25 rfl rfl rfl (by rfl) (fun w h => .inr ⟨_, _, rfl, Hd.cellsAll (k := 0) rfl w h⟩) (by rfl) (by omega) (by decide) rfl fun A21 c21 z21 => ⟨.inr fun _ h => h.pk [2], ?_⟩) | refine GD.step (i := 15) (by kernel_rfl) rfl (ot_append (k := 3) ei_25 rfl rfl rfl (by rfl) (fun w h => .inr ⟨_, _, rfl, Hd.cellsAll (k := 0) rfl w h⟩) (by rfl) (by omega) (by decide) rfl fun A21 c21 z21 => ⟨.inr fun _ h => h.pk [2], ?_⟩) | refine GD.step (i := 15) (by kernel_rfl) rfl (ot_append (k := 4) ei_25 rfl rfl rfl (by rfl) (fun w h => .inr ⟨_, _, rfl, Hd.cellsAll (k := 0) rfl w h⟩) (by rfl) (by omega) (by decide) rfl fun A21 c21 z21 => ⟨.inr fun _ h => h.pk [2], ?_⟩) | refine GD.step (i := 15) (by kernel_rfl) rfl (ot_append (k := 0) ei_25 rfl rfl rfl (by rfl) (fun w h => .inr ⟨_, _, rfl, Hd.cellsAll (k := 1) rfl w h⟩) (by rfl) (by omega) (by decide) rfl fun A21 c21 z21 => ⟨.inr fun _ h => h.pk [2], ?_⟩) | refine GD.step (i := 15) (by kernel_rfl) rfl (ot_append (k := 2) ei_25 rfl rfl rfl (by rfl) (fun w h => .inr ⟨_, _, rfl, Hd.cellsAll (k := 1) rfl w h⟩) (by rfl) (by omega) (by decide) rfl fun A21 c21 z21 => ⟨.inr fun _ h => h.pk [2], ?_⟩) | refine GD.step (i := 15) (by kernel_rfl) rfl (ot_append (k := 3) ei_25 rfl rfl rfl (by rfl) (fun w h => .inr ⟨_, _, rfl, Hd.cellsAll (k := 1) rfl w h⟩) (by rfl) (by omega) (by decide) rfl fun A21 c21 z21 => ⟨.inr fun _ h => h.pk [2], ?_⟩) | refine GD.step (i := 15) (by kernel_rfl) rfl (ot_append (k := 4) ei_25 rfl rfl rfl (by rfl) (fun w h => .inr ⟨_, _, rfl, Hd.cellsAll (k := 1) rfl w h⟩) (by rfl) (by omega) (by decide) rfl fun A21 c21 z21 => ⟨.inr fun _ h => h.pk [2], ?_⟩)
      refine GD.pure (i := 16) rfl (fun _ _ => rv_nil rfl) (by kernel_rfl) (by repeat (first | exact noPanicPut_body | exact noPanicPut_cut | exact noPanicPut_cutE | refine noPanicPut_then ?_ | refine noPanicPut_blk ?_)) ?_
      refine GD.pure (i := 17) rfl (fun _ _ => rv_field fo_55_1 rfl rfl) (by kernel_rfl) (by repeat (first | exact noPanicPut_body | exact noPanicPut_cut | exact noPanicPut_cutE | refine noPanicPut_then ?_ | refine noPanicPut_blk ?_)) ?_
      first | refine GD.step (i := 18) (by kernel_rfl) rfl (ot_store (k := 0) rfl rfl rfl rfl sz_24 rfl rfl (by first | ((simp only [repl, List.set_cons_zero, List.set_cons_succ]) <;> rfl) | rfl) ⟨.inl rfl, ?_⟩) | refine GD.step (i := 18) (by kernel_rfl) rfl (ot_store (k := 1) rfl rfl rfl rfl sz_24 rfl rfl (by first | ((simp only [repl, List.set_cons_zero, List.set_cons_succ]) <;> rfl) | rfl) ⟨.inl rfl, ?_⟩) | refine GD.step (i := 18) (by kernel_rfl) rfl (ot_store (k := 2) rfl rfl rfl rfl sz_24 rfl rfl (by first | ((simp only [repl, List.set_cons_zero, List.set_cons_succ]) <;> rfl) | rfl) ⟨.inl rfl, ?_⟩) | refine GD.step (i := 18) (by kernel_rfl) rfl (ot_store (k := 3) rfl rfl rfl rfl sz_24 rfl rfl (by first | ((simp only [repl, List.set_cons_zero, List.set_cons_succ]) <;> rfl) | rfl) ⟨.inl rfl, ?_⟩) | refine GD.step (i := 18) (by kernel_rfl) rfl (ot_store (k := 4) rfl rfl rfl rfl sz_24 rfl rfl (by first | ((simp only [repl, List.set_cons_zero, List.set_cons_succ]) <;> rfl) | rfl) ⟨.inl rfl, ?_⟩)
      refine GD.pure (i := 19) rfl (fun _ _ => rv_nil rfl) (by kernel_rfl) (by repeat (first | exact noPanicPut_body | exact noPanicPut_cut | exact noPanicPut_cutE | refine noPanicPut_then ?_ | refine noPanicPut_blk ?_)) ?_
      refine GD.pure (i := 20) rfl (fun _ _ => rv_field fo_55_2 rfl rfl) (by kernel_rfl) (by repeat (first | exact noPanicPut_body | exact noPanicPut_cut | exact noPanicPut_cutE | refine noPanicPut_then ?_ | refine noPanicPut_blk ?_)) ?_
      first | refine GD.step (i := 21) (by kernel_rfl) rfl (ot_store (k := 0) rfl rfl rfl rfl sz_25 rfl rfl (by first | ((simp only [repl, List.set_cons_zero, List.set_cons_succ]) <;> rfl) | rfl) ⟨.inl rfl, ?_⟩) | refine GD.step (i := 21) (by kernel_rfl) rfl (ot_store (k := 1) rfl rfl rfl rfl sz_25 rfl rfl (by first | ((simp only [repl, List.set_cons_zero, List.set_cons_succ]) <;> rfl) | rfl) ⟨.inl rfl, ?_⟩) | refine GD.step (i := 21) (by kernel_rfl) rfl (ot_store (k := 2) rfl rfl rfl rfl sz_25 rfl rfl (by first | ((simp only [repl, List.set_cons_zero, List.set_cons_succ]) <;> rfl) | rfl) ⟨.inl rfl, ?_⟩) | refine GD.step (i := 21) (by kernel_rfl) rfl (ot_store (k := 3) rfl rfl rfl rfl sz_25 rfl rfl (by first | ((simp only [repl, List.set_cons_zero, List.set_cons_succ]) <;> rfl) | rfl) ⟨.inl rfl, ?_⟩) | refine GD.step (i := 21) (by kernel_rfl) rfl (ot_store (k := 4) rfl rfl rfl rfl sz_25 rfl rfl (by first | ((simp only [repl, List.set_cons_zero, List.set_cons_succ]) <;> rfl) | rfl) ⟨.inl rfl, ?_⟩)
      refine GD.done (by kernel_rfl) ?_
      refine GX.end0 rfl ?_
      exact fun w1 hh => by
        have h2 : St S w w1 [.cl p [.int .i64 m, .slice A14 (kv ++ [(k, v)]).length c14, .slice A21 (kv ++ [(k, v)]).length c21, .int .i64 h, .int .i64 s] 55, .row A14 c14 9 1 (kv ++ [(k, v)]).length ((kv ++ [(k, v)]).map fun q => .string q.1), .row A21 c21 3 1 (kv ++ [(k, v)]).length ((kv ++ [(k, v)]).map fun q => .int .i64 q.2)] := by simpa [Value.cells] using (hh.drop 0).drop 0
        exact ⟨(), rfl, St.cc h2, trivial⟩
  · refine ot_buildSlice ei_25 rfl rfl rfl rfl rfl rfl fun b20 => ⟨.inr fun _ h => h.pk [1], ?_⟩
    refine GD.step (i := 7) (by kernel_rfl) rfl (ot_buildSlice ei_24 rfl rfl rfl rfl rfl rfl fun b13 => ⟨.inr fun _ h => h.pk [2], ?_⟩)
    first | refine GD.step (i := 8) (by kernel_rfl) rfl (ot_append (k := 1) ei_24 rfl rfl rfl (by rfl) (fun w h => .inr ⟨_, _, rfl, Hd.cellsAll (k := 0) rfl w h⟩) (by rfl) (by omega) (by decide) rfl fun A14 c14 z14 => ⟨.inr fun _ h => h.pk [2], ?_⟩) | refine GD.step (i := 8) (by kernel_rfl) rfl (ot_append (k := 2) ei_24 rfl rfl rfl (by rfl) (fun w h => .inr ⟨_, _, rfl, Hd.cellsAll (k := 0) rfl w h⟩) (by rfl) (by omega) (by decide) rfl fun A14 c14 z14 => ⟨.inr fun _ h => h.pk [2], ?_⟩) | refine GD.step (i := 8) (by kernel_rfl) rfl (ot_append (k := 3) ei_24 rfl rfl rfl (by rfl) (fun w h => .inr ⟨_, _, rfl, Hd.cellsAll (k := 0) rfl w h⟩) (by rfl) (by omega) (by decide) rfl fun A14 c14 z14 => ⟨.inr fun _ h => h.pk [2], ?_⟩) | refine GD.step (i := 8) (by kernel_rfl) rfl (ot_append (k := 4) ei_24 rfl rfl rfl (by rfl) (fun w h => .inr ⟨_, _, rfl, Hd.cellsAll (k := 0) rfl w h⟩) (by rfl) (by omega) (by decide) rfl fun A14 c14 z14 => ⟨.inr fun _ h => h.pk [2], ?_⟩) | refine GD.step (i := 8) (by kernel_rfl) rfl (ot_append (k := 0) ei_24 rfl rfl rfl (by rfl) (fun w h => .inr ⟨_, _, rfl, Hd.cellsAll (k := 1) rfl w h⟩) (by rfl) (by omega) (by decide) rfl fun A14 c14 z14 => ⟨.inr fun _ h => h.pk [2], ?_⟩) | refine GD.step (i := 8) (by kernel_rfl) rfl (ot_append (k := 2) ei_24 rfl rfl rfl (by rfl) (fun w h => .inr ⟨_, _, rfl, Hd.cellsAll (k := 1) rfl w h⟩) (by rfl) (by omega) (by decide) rfl fun A14 c14 z14 => ⟨.inr fun _ h => h.pk [2], ?_⟩) | refine GD.step (i := 8) (by kernel_rfl) rfl (ot_append (k := 3) ei_24 rfl rfl rfl (by rfl) (fun w h => .inr ⟨_, _, rfl, Hd.cellsAll (k := 1) rfl w h⟩) (by rfl) (by omega) (by decide) rfl fun A14 c14 z14 => ⟨.inr fun _ h => h.pk [2], ?_⟩) | refine GD.step (i := 8) (by kernel_rfl) rfl (ot_append (k := 4) ei_24 rfl rfl rfl (by rfl) (fun w h => .inr ⟨_, _, rfl, Hd.cellsAll (k := 1) rfl w h⟩) (by rfl) (by omega) (by decide) rfl fun A14 c14 z14 => ⟨.inr fun _ h => h.pk [2], ?_⟩)
    first | refine GD.step (i := 15) (by kernel_rfl) rfl (ot_append (k := 1) ei_25 rfl rfl rfl (by rfl) (fun w h => .inr ⟨_, _, rfl, Hd.cellsAll (k := 0) rfl w h⟩) (by rfl) (by omega) (by decide) rfl fun A21 c21 z21 => ⟨.inr fun _ h => h.pk [2], ?_⟩) | refine GD.step (i := 15) (by kernel_rfl) rfl (ot_append (k := 2) ei_25 rfl rfl rfl (by rfl) (fun w h => .inr ⟨_, _, rfl, Hd.cellsAll (k := 0) rfl w h⟩) (by rfl) (by omega) (by decide) rfl fun A21 c21 z21 => ⟨.inr fun _ h => h.pk [2], ?_⟩) | refine GD.step (i := 15) (by kernel_rfl) rfl (ot_append (k := 3) ei_25 rfl rfl rfl (by rfl) (fun w h => .inr ⟨_, _, rfl, Hd.cellsAll (k := 0) rfl w h⟩) (by rfl) (by omega) (by decide) rfl fun A21 c21 z21 => ⟨.inr fun _ h => h.pk [2], ?_⟩) | refine GD.step (i := 15) (by kernel_rfl) rfl (ot_append (k := 4) ei_25 rfl rfl rfl (by rfl) (fun w h => .inr ⟨_, _, rfl, Hd.cellsAll (k := 0) rfl w h⟩) (by rfl) (by omega) (by decide) rfl fun A21 c21 z21 => ⟨.inr fun _ h => h.pk [2], ?_⟩) | refine GD.step (i := 15) (by kernel_rfl) rfl (ot_append (k := 0) ei_25 rfl rfl rfl (by rfl) (fun w h => .inr ⟨_, _, rfl, Hd.cellsAll (k := 1) rfl w h⟩) (by rfl) (by omega) (by decide) rfl fun A21 c21 z21 => ⟨.inr fun _ h => h.pk [2], ?_⟩) | refine GD.step (i := 15) (by kernel_rfl) rfl (ot_append (k := 2) ei_25 rfl rfl rfl (by rfl) (fun w h => .inr ⟨_, _, rfl, Hd.cellsAll (k := 1) rfl w h⟩) (by rfl) (by omega) (by decide) rfl fun A21 c21 z21 => ⟨.inr fun _ h => h.pk [2], ?_⟩) | refine GD.step (i := 15) (by kernel_rfl) rfl (ot_append (k := 3) ei_25 rfl rfl rfl (by rfl) (fun w h => .inr ⟨_, _, rfl, Hd.cellsAll (k := 1) rfl w h⟩) (by rfl) (by omega) (by decide) rfl fun A21 c21 z21 => ⟨.inr fun _ h => h.pk [2], ?_⟩) | refine GD.step (i := 15) (by kernel_rfl) rfl (ot_append (k := 4) ei_25 rfl rfl rfl (by rfl) (fun w h => .inr ⟨_, _, rfl, Hd.cellsAll (k := 1) rfl w h⟩) (by rfl) (by omega) (by decide) rfl fun A21 c21 z21 => ⟨.inr fun _ h => h.pk [2], ?_⟩)
    refine GD.pure (i := 16) rfl (fun _ _ => rv_nil rfl) (by kernel_rfl) (by repeat (first | exact noPanicPut_body | exact noPanicPut_cut | exact noPanicPut_cutE | refine noPanicPut_then ?_ | refine noPanicPut_blk ?_)) ?_
    refine GD.pure (i := 17) rfl (fun _ _ => rv_field fo_55_1 rfl rfl) (by kernel_rfl) (by repeat (first | exact noPanicPut_body | exact noPanicPut_cut | exact noPanicPut_cutE | refine noPanicPut_then ?_ | refine noPanicPut_blk ?_)) ?_
    first | refine GD.step (i := 18) (by kernel_rfl) rfl (ot_store (k := 0) rfl rfl rfl rfl sz_24 rfl rfl (by first | ((simp only [repl, List.set_cons_zero, List.set_cons_succ]) <;> rfl) | rfl) ⟨.inl rfl, ?_⟩) | refine GD.step (i := 18) (by kernel_rfl) rfl (ot_store (k := 1) rfl rfl rfl rfl sz_24 rfl rfl (by first | ((simp only [repl, List.set_cons_zero, List.set_cons_succ]) <;> rfl) | rfl) ⟨.inl rfl, ?_⟩) | refine GD.step (i := 18) (by kernel_rfl) rfl (ot_store (k := 2) rfl rfl rfl rfl sz_24 rfl rfl (by first | ((simp only [repl, List.set_cons_zero, List.set_cons_succ]) <;> rfl) | rfl) ⟨.inl rfl, ?_⟩) | refine GD.step (i := 18) (by kernel_rfl) rfl (ot_store (k := 3) rfl rfl rfl rfl sz_24 rfl rfl (by first | ((simp only [repl, List.set_cons_zero, List.set_cons_succ]) <;> rfl) | rfl) ⟨.inl rfl, ?_⟩) | refine GD.step (i := 18) (by kernel_rfl) rfl (ot_store (k := 4) rfl rfl rfl rfl sz_24 rfl rfl (by first | ((simp only [repl, List.set_cons_zero, List.set_cons_succ]) <;> rfl) | rfl) ⟨.inl rfl, ?_⟩)
    refine GD.pure (i := 19) rfl (fun _ _ => rv_nil rfl) (by kernel_rfl) (by repeat (first | exact noPanicPut_body | exact noPanicPut_cut | exact noPanicPut_cutE | refine noPanicPut_then ?_ | refine noPanicPut_blk ?_)) ?_
    refine GD.pure (i := 20) rfl (fun _ _ => rv_field fo_55_2 rfl rfl) (by kernel_rfl) (by repeat (first | exact noPanicPut_body | exact noPanicPut_cut | exact noPanicPut_cutE | refine noPanicPut_then ?_ | refine noPanicPut_blk ?_)) ?_
    first | refine GD.step (i := 21) (by kernel_rfl) rfl (ot_store (k := 0) rfl rfl rfl rfl sz_25 rfl rfl (by first | ((simp only [repl, List.set_cons_zero, List.set_cons_succ]) <;> rfl) | rfl) ⟨.inl rfl, ?_⟩) | refine GD.step (i := 21) (by kernel_rfl) rfl (ot_store (k := 1) rfl rfl rfl rfl sz_25 rfl rfl (by first | ((simp only [repl, List.set_cons_zero, List.set_cons_succ]) <;> rfl) | rfl) ⟨.inl rfl, ?_⟩) | refine GD.step (i := 21) (by kernel_rfl) rfl (ot_store (k := 2) rfl rfl rfl rfl sz_25 rfl rfl (by first | ((simp only [repl, List.set_cons_zero, List.set_cons_succ]) <;> rfl) | rfl) ⟨.inl rfl, ?_⟩) | refine GD.step (i := 21) (by kernel_rfl) rfl (ot_store (k := 3) rfl rfl rfl rfl sz_25 rfl rfl (by first | ((simp only [repl, List.set_cons_zero, List.set_cons_succ]) <;> rfl) | rfl) ⟨.inl rfl, ?_⟩) | refine GD.step (i := 21) (by kernel_rfl) rfl (ot_store (k := 4) rfl rfl rfl rfl sz_25 rfl rfl (by first | ((simp only [repl, List.set_cons_zero, List.set_cons_succ]) <;> rfl) | rfl) ⟨.inl rfl, ?_⟩)
    refine GD.done (by kernel_rfl) ?_
    refine GX.end0 rfl ?_
    exact fun w1 hh => by
      have h2 : St S w w1 [.cl p [.int .i64 m, .slice A14 (kv ++ [(k, v)]).length c14, .slice A21 (kv ++ [(k, v)]).length c21, .int .i64 h, .int .i64 s] 55, .row A14 c14 9 1 (kv ++ [(k, v)]).length ((kv ++ [(k, v)]).map fun q => .string q.1), .row A21 c21 3 1 (kv ++ [(k, v)]).length ((kv ++ [(k, v)]).map fun q => .int .i64 q.2)] := by simpa [Value.cells] using (hh.drop 0).drop 0
      exact ⟨(), rfl, St.cc h2, trivial⟩
theorem index_yes {A : Option Addr} {c n : Nat} {ks : List ByteArray} {k : ByteArray} {w : World} (hR : SlR w A (ks.map .string)) (hl : ks.length = n) (hn : n ≤ 1000000) (h : Bc.ix ks k < n) :
    Calls Try.prog 23 [.slice A n c, .string k].toArray w fun e w' => ∃ _g : Unit, e = .returned (.int .i64 (Bc.ix ks k : Int)) ∧ St noB w w' [] ∧ True := by
  have := index_c A c n ks k w hR hl hn
  rwa [if_pos (by omega)] at this
theorem index_no {A : Option Addr} {c n : Nat} {ks : List ByteArray} {k : ByteArray} {w : World} (hR : SlR w A (ks.map .string)) (hl : ks.length = n) (hn : n ≤ 1000000) (h : ¬ Bc.ix ks k < n) :
    Calls Try.prog 23 [.slice A n c, .string k].toArray w fun e w' => ∃ _g : Unit, e = .returned (.int .i64 (-1)) ∧ St noB w w' [] ∧ True := by
  have := index_c A c n ks k w hR hl hn
  rwa [if_neg (by omega)] at this
end Go.Proofs.Ytjbnblkefhpibaa
