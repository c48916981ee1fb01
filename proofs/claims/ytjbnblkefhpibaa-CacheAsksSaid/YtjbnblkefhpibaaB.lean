import Derived.Test.YtjbnblkefhpibaaA
set_option linter.unusedVariables false
set_option linter.unusedSimpArgs false
namespace Go.Proofs.Ytjbnblkefhpibaa
open Go Go.RowKit Go.Bz
theorem fo_55_0 : fieldOff Try.prog 55 0 = some 0 := by kernel_rfl
theorem hb_23 : hasBody Try.prog 23 = true := by kernel_rfl
theorem hb_24 : hasBody Try.prog 24 = true := by kernel_rfl
theorem hb_25 : hasBody Try.prog 25 = true := by kernel_rfl
theorem hb_26 : hasBody Try.prog 26 = true := by kernel_rfl
theorem sz_3 : (Try.prog.info? 3).map (·.size) = some 1 := by kernel_rfl
set_option maxRecDepth 100000 in
set_option maxHeartbeats 1000000 in
theorem get_y (p : Nat) (m h s : Int) (k : ByteArray) (kv : List (ByteArray × Int)) (w : World) (S : Nat → Prop) (hA : (CcP p m kv h s).A S w) (hb : ∀ b, S b → b < w.heap.size) (hn : kv.length ≤ 100000) (hh0 : 0 ≤ h) (hh1 : h ≤ 1000000) (hs0 : 0 ≤ s) (hs1 : s ≤ 1000000) (hx : Bc.ix (kv.map (·.1)) k < kv.length) :
    Calls Try.prog 12 [.pointer (some ⟨p, 0, none⟩), .string k].toArray w fun e w' => ∃ _g : Unit, e = .returned (.tuple #[.int .i64 kv[Bc.ix (kv.map (·.1)) k].2, .bool true]) ∧ St S w w' [CcP p m (kv.eraseIdx (Bc.ix (kv.map (·.1)) k) ++ [(k, kv[Bc.ix (kv.map (·.1)) k].2)]) (h + 1) s] ∧ True := by
  refine GC.calls Try.func12 rfl rfl (St.begin1 hA hb) ?_
  refine GC.cc fun A1 c1 A2 c2 => ?_
  refine GC.seq ?_
  refine GC.reg ?_
  refine GL.val (rv_assign rfl) rfl ?_
  refine GL.val (rv_assign rfl) rfl ?_
  refine GL.nil ?_
  refine GX.then ?_
  refine GC.seq ?_
  refine GC.reg ?_
  refine GL.val (rv_move rfl) rfl ?_
  refine GL.val (rv_nil rfl) rfl ?_
  refine GL.val (rv_field fo_55_1 rfl rfl) rfl ?_
  refine GL.val (rv_load ag_24 rfl (by first | exact Hd.cell (k := 0) rfl rfl | exact Hd.cell (k := 1) rfl rfl | exact Hd.cell (k := 2) rfl rfl | exact Hd.rowCell (k := 0) rfl (by assumption) | exact Hd.rowCell (k := 1) rfl (by assumption) | exact Hd.rowCell (k := 2) rfl (by assumption) | exact Hd.cell0 (by assumption) (by first | exact fun h => h | assumption))) rfl ?_
  refine GL.val (rv_move rfl) rfl ?_
  refine GL.step (ot_call hb_23 rfl (callOk fun w hh => index_yes (ks := kv.map (·.1)) (by simpa [Function.comp_def] using hh.rowR (k := 1) rfl) (by simp) (by omega) hx) rfl fun _ _ => ?_)
  refine GL.val (rv_assign rfl) rfl ?_
  refine GL.nil ?_
  refine GX.then ?_
  refine GC.seq ?_
  refine GC.seq ?_
  refine GC.reg ?_
  refine GL.val (rv_move rfl) rfl ?_
  refine GL.val (rv_lss rfl rfl) rfl ?_
  refine GL.nil ?_
  refine GX.then ?_
  first | refine GC.condP rfl (fun c1 => ?_) (fun c1 => ?_) | refine GC.cond rfl (fun c1 => ?_) (fun c1 => ?_)
  · exact absurd c1 (by omega)
  · refine GC.skip ?_
    refine GX.then ?_
    refine GC.seq ?_
    refine GC.reg ?_
    refine GL.val (rv_move rfl) rfl ?_
    refine GL.val (rv_nil rfl) rfl ?_
    refine GL.val (rv_field fo_55_3 rfl rfl) rfl ?_
    refine GL.val (rv_load ag_3 rfl (by first | exact Hd.cell (k := 0) rfl rfl | exact Hd.cell (k := 1) rfl rfl | exact Hd.cell (k := 2) rfl rfl | exact Hd.rowCell (k := 0) rfl (by assumption) | exact Hd.rowCell (k := 1) rfl (by assumption) | exact Hd.rowCell (k := 2) rfl (by assumption) | exact Hd.cell0 (by assumption) (by first | exact fun h => h | assumption))) rfl ?_
    refine GL.val (rv_add rfl rfl (by omega) (by omega)) rfl ?_
    refine GL.val (rv_nil rfl) rfl ?_
    refine GL.val (rv_field fo_55_3 rfl rfl) rfl ?_
    first | refine GL.step (ot_store (k := 0) rfl rfl rfl rfl sz_3 rfl rfl (by first | ((simp only [repl, List.set_cons_zero, List.set_cons_succ]) <;> rfl) | rfl) ?_) | refine GL.step (ot_store (k := 1) rfl rfl rfl rfl sz_3 rfl rfl (by first | ((simp only [repl, List.set_cons_zero, List.set_cons_succ]) <;> rfl) | rfl) ?_) | refine GL.step (ot_store (k := 2) rfl rfl rfl rfl sz_3 rfl rfl (by first | ((simp only [repl, List.set_cons_zero, List.set_cons_succ]) <;> rfl) | rfl) ?_)
    refine GL.nil ?_
    refine GX.then ?_
    refine GC.seq ?_
    refine GC.st (fun w h => St.cc h) ?_
    refine GC.reg ?_
    refine GL.val (rv_move rfl) rfl ?_
    refine GL.val (rv_move rfl) rfl ?_
    refine GL.step (ot_call hb_24 rfl (callOkM (k := 0) rfl fun w S _ hA hb => take_c p _ m (h + 1) s kv w S hA hb hx (by omega)) rfl fun _ _ => ?_)
    refine GL.val (rv_move rfl) rfl ?_
    refine GL.val (rv_extract rfl rfl) rfl ?_
    refine GL.val (rv_extract rfl rfl) rfl ?_
    refine GL.val (rv_assign rfl) rfl ?_
    refine GL.val (rv_assign rfl) rfl ?_
    refine GL.nil ?_
    refine GX.then ?_
    refine GC.seq ?_
    refine GC.reg ?_
    refine GL.val (rv_move rfl) rfl ?_
    refine GL.val (rv_move rfl) rfl ?_
    refine GL.val (rv_move rfl) rfl ?_
    refine GL.step (ot_call hb_25 rfl (callOkM (k := 0) rfl fun w S _ hA hb => last_c p m (h + 1) s _ k _ w S hA hb (by have := List.length_eraseIdx_le kv (Bc.ix (kv.map (·.1)) k); omega)) rfl fun _ _ => ?_)
    refine GL.nil ?_
    refine GX.then ?_
    refine GC.seq ?_
    refine GC.reg ?_
    refine GL.val (rv_move rfl) rfl ?_
    refine GL.val (rv_assign rfl) rfl ?_
    refine GL.val (rv_assign rfl) rfl ?_
    refine GL.nil ?_
    refine GX.then ?_
    refine GC.ret ?_
    refine GX.ret2 rfl (RR.tmp rfl) (RR.tmp rfl) ?_
    exact fun w h => ⟨(), rfl, h, trivial⟩
set_option maxRecDepth 100000 in
set_option maxHeartbeats 1000000 in
theorem get_n (p : Nat) (m h s : Int) (k : ByteArray) (kv : List (ByteArray × Int)) (w : World) (S : Nat → Prop) (hA : (CcP p m kv h s).A S w) (hb : ∀ b, S b → b < w.heap.size) (hn : kv.length ≤ 100000) (hh0 : 0 ≤ h) (hh1 : h ≤ 1000000) (hs0 : 0 ≤ s) (hs1 : s ≤ 1000000) (hx : ¬ Bc.ix (kv.map (·.1)) k < kv.length) :
    Calls Try.prog 12 [.pointer (some ⟨p, 0, none⟩), .string k].toArray w fun e w' => ∃ _g : Unit, e = .returned (.tuple #[.int .i64 0, .bool false]) ∧ St S w w' [CcP p m kv h (s + 1)] ∧ True := by
  refine GC.calls Try.func12 rfl rfl (St.begin1 hA hb) ?_
  refine GC.cc fun A1 c1 A2 c2 => ?_
  refine GC.seq ?_
  refine GC.reg ?_
  refine GL.val (rv_assign rfl) rfl ?_
  refine GL.val (rv_assign rfl) rfl ?_
  refine GL.nil ?_
  refine GX.then ?_
  refine GC.seq ?_
  refine GC.reg ?_
  refine GL.val (rv_move rfl) rfl ?_
  refine GL.val (rv_nil rfl) rfl ?_
  refine GL.val (rv_field fo_55_1 rfl rfl) rfl ?_
  refine GL.val (rv_load ag_24 rfl (by first | exact Hd.cell (k := 0) rfl rfl | exact Hd.cell (k := 1) rfl rfl | exact Hd.cell (k := 2) rfl rfl | exact Hd.rowCell (k := 0) rfl (by assumption) | exact Hd.rowCell (k := 1) rfl (by assumption) | exact Hd.rowCell (k := 2) rfl (by assumption) | exact Hd.cell0 (by assumption) (by first | exact fun h => h | assumption))) rfl ?_
  refine GL.val (rv_move rfl) rfl ?_
  refine GL.step (ot_call hb_23 rfl (callOk fun w hh => index_no (ks := kv.map (·.1)) (by simpa [Function.comp_def] using hh.rowR (k := 1) rfl) (by simp) (by omega) hx) rfl fun _ _ => ?_)
  refine GL.val (rv_assign rfl) rfl ?_
  refine GL.nil ?_
  refine GX.then ?_
  refine GC.seq ?_
  refine GC.seq ?_
  refine GC.reg ?_
  refine GL.val (rv_move rfl) rfl ?_
  refine GL.val (rv_lss rfl rfl) rfl ?_
  refine GL.nil ?_
  refine GX.then ?_
  first | refine GC.condP rfl (fun c1 => ?_) (fun c1 => ?_) | refine GC.cond rfl (fun c1 => ?_) (fun c1 => ?_)
  · refine GC.seq ?_
    refine GC.reg ?_
    refine GL.val (rv_move rfl) rfl ?_
    refine GL.val (rv_nil rfl) rfl ?_
    refine GL.val (rv_field fo_55_4 rfl rfl) rfl ?_
    refine GL.val (rv_load ag_3 rfl (by first | exact Hd.cell (k := 0) rfl rfl | exact Hd.cell (k := 1) rfl rfl | exact Hd.cell (k := 2) rfl rfl | exact Hd.rowCell (k := 0) rfl (by assumption) | exact Hd.rowCell (k := 1) rfl (by assumption) | exact Hd.rowCell (k := 2) rfl (by assumption) | exact Hd.cell0 (by assumption) (by first | exact fun h => h | assumption))) rfl ?_
    refine GL.val (rv_add rfl rfl (by omega) (by omega)) rfl ?_
    refine GL.val (rv_nil rfl) rfl ?_
    refine GL.val (rv_field fo_55_4 rfl rfl) rfl ?_
    first | refine GL.step (ot_store (k := 0) rfl rfl rfl rfl sz_3 rfl rfl (by first | ((simp only [repl, List.set_cons_zero, List.set_cons_succ]) <;> rfl) | rfl) ?_) | refine GL.step (ot_store (k := 1) rfl rfl rfl rfl sz_3 rfl rfl (by first | ((simp only [repl, List.set_cons_zero, List.set_cons_succ]) <;> rfl) | rfl) ?_) | refine GL.step (ot_store (k := 2) rfl rfl rfl rfl sz_3 rfl rfl (by first | ((simp only [repl, List.set_cons_zero, List.set_cons_succ]) <;> rfl) | rfl) ?_)
    refine GL.nil ?_
    refine GX.then ?_
    refine GC.seq ?_
    refine GC.reg ?_
    refine GL.step (ot_alloc (zs := [.int .i64 0]) zb_3 rfl rfl fun b24 => ?_)
    refine GL.val (rv_nil rfl) rfl ?_
    refine GL.val (rv_load ag_3 rfl (by first | exact Hd.cell (k := 0) rfl rfl | exact Hd.cell (k := 1) rfl rfl | exact Hd.cell (k := 2) rfl rfl | exact Hd.cell (k := 3) rfl rfl | exact Hd.rowCell (k := 0) rfl (by assumption) | exact Hd.rowCell (k := 1) rfl (by assumption) | exact Hd.rowCell (k := 2) rfl (by assumption) | exact Hd.rowCell (k := 3) rfl (by assumption) | exact Hd.cell0 (by assumption) (by first | exact fun h => h | assumption))) rfl ?_
    refine GL.val (rv_assign rfl) rfl ?_
    refine GL.val (rv_assign rfl) rfl ?_
    refine GL.nil ?_
    refine GX.then ?_
    refine GC.ret ?_
    refine GX.then_ret ?_
    refine GX.ret2 rfl (RR.tmp rfl) (RR.tmp rfl) ?_
    exact fun w h => ⟨(), rfl, St.cc (h.drop 0), trivial⟩
  · exact absurd c1 (by omega)
set_option maxRecDepth 100000 in
set_option maxHeartbeats 1000000 in
theorem put_y (p : Nat) (m h s : Int) (v : Int) (k : ByteArray) (kv : List (ByteArray × Int)) (w : World) (S : Nat → Prop) (hA : (CcP p m kv h s).A S w) (hb : ∀ b, S b → b < w.heap.size) (hn : kv.length ≤ 100000) (hh0 : 0 ≤ h) (hh1 : h ≤ 1000000) (hs0 : 0 ≤ s) (hs1 : s ≤ 1000000) (hx :  Bc.ix (kv.map (·.1)) k < kv.length) :
    Calls Try.prog 17 [.pointer (some ⟨p, 0, none⟩), .string k, .int .i64 v].toArray w fun e w' => ∃ _g : Unit, e = .returned (.tuple #[]) ∧ St S w w' [CcP p m (if m < (kv.eraseIdx (Bc.ix (kv.map (·.1)) k) ++ [(k, v)]).length then (kv.eraseIdx (Bc.ix (kv.map (·.1)) k) ++ [(k, v)]).eraseIdx 0 else (kv.eraseIdx (Bc.ix (kv.map (·.1)) k) ++ [(k, v)])) h s] ∧ True := by
  refine GC.calls Try.func17 rfl rfl (St.begin1 hA hb) ?_
  refine GC.cc fun A1 c1 A2 c2 => ?_
  have hl1 := List.length_eraseIdx_le kv (Bc.ix (kv.map (·.1)) k)
  refine GC.seq ?_
  refine GC.seq ?_
  refine GC.reg ?_
  refine GL.val (rv_move rfl) rfl ?_
  refine GL.val (rv_nil rfl) rfl ?_
  refine GL.val (rv_field fo_55_1 rfl rfl) rfl ?_
  refine GL.val (rv_load ag_24 rfl (by first | exact Hd.cell (k := 0) rfl rfl | exact Hd.cell (k := 1) rfl rfl | exact Hd.cell (k := 2) rfl rfl | exact Hd.rowCell (k := 0) rfl (by assumption) | exact Hd.rowCell (k := 1) rfl (by assumption) | exact Hd.rowCell (k := 2) rfl (by assumption) | exact Hd.cell0 (by assumption) (by first | exact fun h => h | assumption))) rfl ?_
  refine GL.val (rv_move rfl) rfl ?_
  refine GL.step (ot_call hb_23 rfl (callOk fun w hh => index_yes (ks := kv.map (·.1)) (by simpa [Function.comp_def] using hh.rowR (k := 1) rfl) (by simp) (by omega) hx) rfl fun _ _ => ?_)
  refine GL.val (rv_assign rfl) rfl ?_
  refine GL.nil ?_
  refine GX.then ?_
  refine GC.seq ?_
  refine GC.reg ?_
  refine GL.val (rv_move rfl) rfl ?_
  refine GL.val (rv_geq rfl rfl) rfl ?_
  refine GL.nil ?_
  refine GX.then ?_
  first | refine GC.condP rfl (fun c1 => ?_) (fun c1 => ?_) | refine GC.cond rfl (fun c1 => ?_) (fun c1 => ?_)
  · refine GC.st (fun w h => St.cc h) ?_
    refine GC.reg ?_
    refine GL.val (rv_move rfl) rfl ?_
    refine GL.val (rv_move rfl) rfl ?_
    refine GL.step (ot_call hb_24 rfl (callOkM (k := 0) rfl fun w S _ hA hb => take_c p _ m h s kv w S hA hb hx (by omega)) rfl fun _ _ => ?_)
    refine GL.nil ?_
    refine GX.then ?_
    refine GC.seq ?_
    refine GC.reg ?_
    refine GL.val (rv_move rfl) rfl ?_
    refine GL.val (rv_move rfl) rfl ?_
    refine GL.val (rv_move rfl) rfl ?_
    refine GL.step (ot_call hb_25 rfl (callOkM (k := 0) rfl fun w S _ hA hb => last_c p m h s v k (kv.eraseIdx (Bc.ix (kv.map (·.1)) k)) w S hA hb (by omega)) rfl fun _ _ => ?_)
    refine GL.nil ?_
    refine GX.then ?_
    refine GC.seq ?_
    refine GC.cc fun A3 c3 A4 c4 => ?_
    refine GC.draw 10 [0] mo_ ?_
    refine GD.pure (i := 0) rfl (fun _ _ => rv_move rfl) (by kernel_rfl) (by repeat (first | exact noPanicPut_body | exact noPanicPut_cut | exact noPanicPut_cutE | refine noPanicPut_then ?_ | refine noPanicPut_blk ?_)) ?_
    refine GD.pure (i := 1) rfl (fun _ _ => rv_nil rfl) (by kernel_rfl) (by repeat (first | exact noPanicPut_body | exact noPanicPut_cut | exact noPanicPut_cutE | refine noPanicPut_then ?_ | refine noPanicPut_blk ?_)) ?_
    refine GD.pure (i := 2) rfl (fun _ _ => rv_field fo_55_1 rfl rfl) (by kernel_rfl) (by repeat (first | exact noPanicPut_body | exact noPanicPut_cut | exact noPanicPut_cutE | refine noPanicPut_then ?_ | refine noPanicPut_blk ?_)) ?_
    refine GD.pure (i := 5) rfl (fun _ _ => rv_move rfl) (by kernel_rfl) (by repeat (first | exact noPanicPut_body | exact noPanicPut_cut | exact noPanicPut_cutE | refine noPanicPut_then ?_ | refine noPanicPut_blk ?_)) ?_
    refine GD.pure (i := 6) rfl (fun _ _ => rv_nil rfl) (by kernel_rfl) (by repeat (first | exact noPanicPut_body | exact noPanicPut_cut | exact noPanicPut_cutE | refine noPanicPut_then ?_ | refine noPanicPut_blk ?_)) ?_
    refine GD.pure (i := 7) rfl (fun _ _ => rv_field fo_55_0 rfl rfl) (by kernel_rfl) (by repeat (first | exact noPanicPut_body | exact noPanicPut_cut | exact noPanicPut_cutE | refine noPanicPut_then ?_ | refine noPanicPut_blk ?_)) ?_
    refine GD.read (i := 3) rfl (rv_load ag_24 rfl (by first | exact Hd.cell (k := 0) rfl rfl | exact Hd.rowCell (k := 0) rfl (by assumption) | exact Hd.cell0 (by assumption) (by first | exact fun h => h | assumption))) (by kernel_rfl) (by repeat (first | exact noPanicPut_body | exact noPanicPut_cut | exact noPanicPut_cutE | refine noPanicPut_then ?_ | refine noPanicPut_blk ?_)) ?_
    refine GD.pure (i := 4) rfl (fun _ _ => rv_lenSl Try.underlying24 rfl) (by kernel_rfl) (by repeat (first | exact noPanicPut_body | exact noPanicPut_cut | exact noPanicPut_cutE | refine noPanicPut_then ?_ | refine noPanicPut_blk ?_)) ?_
    refine GD.read (i := 8) rfl (rv_load ag_3 rfl (by first | exact Hd.cell (k := 0) rfl rfl | exact Hd.rowCell (k := 0) rfl (by assumption) | exact Hd.cell0 (by assumption) (by first | exact fun h => h | assumption))) (by kernel_rfl) (by repeat (first | exact noPanicPut_body | exact noPanicPut_cut | exact noPanicPut_cutE | refine noPanicPut_then ?_ | refine noPanicPut_blk ?_)) ?_
    refine GD.pure (i := 9) rfl (fun _ _ => rv_gtr rfl rfl) (by kernel_rfl) (by repeat (first | exact noPanicPut_body | exact noPanicPut_cut | exact noPanicPut_cutE | refine noPanicPut_then ?_ | refine noPanicPut_blk ?_)) ?_
    refine GD.done (by kernel_rfl) ?_
    refine GX.then ?_
    first | refine GC.condP rfl (fun c2 => ?_) (fun c2 => ?_) | refine GC.cond rfl (fun c2 => ?_) (fun c2 => ?_)
    · refine GC.st (fun w h => St.cc h) ?_
      refine GC.reg ?_
      refine GL.val (rv_move rfl) rfl ?_
      refine GL.step (ot_call hb_24 rfl (callOkM (k := 0) rfl fun w S _ hA hb => take_c p 0 m h s (kv.eraseIdx (Bc.ix (kv.map (·.1)) k) ++ [(k, v)]) w S hA hb (by simp) (by simp; omega)) rfl fun _ _ => ?_)
      refine GL.nil ?_
      refine GX.end0 rfl ?_
      exact fun w h => ⟨(), rfl, by rw [if_pos c2]; exact h, trivial⟩
    · refine GC.skip ?_
      refine GX.end0 rfl ?_
      exact fun w h => ⟨(), rfl, by rw [if_neg c2]; exact St.cc h, trivial⟩
  · exact absurd c1 (by omega)
set_option maxRecDepth 100000 in
set_option maxHeartbeats 1000000 in
theorem put_n (p : Nat) (m h s : Int) (v : Int) (k : ByteArray) (kv : List (ByteArray × Int)) (w : World) (S : Nat → Prop) (hA : (CcP p m kv h s).A S w) (hb : ∀ b, S b → b < w.heap.size) (hn : kv.length ≤ 100000) (hh0 : 0 ≤ h) (hh1 : h ≤ 1000000) (hs0 : 0 ≤ s) (hs1 : s ≤ 1000000) (hx : ¬ Bc.ix (kv.map (·.1)) k < kv.length) :
    Calls Try.prog 17 [.pointer (some ⟨p, 0, none⟩), .string k, .int .i64 v].toArray w fun e w' => ∃ _g : Unit, e = .returned (.tuple #[]) ∧ St S w w' [CcP p m (if m < (kv ++ [(k, v)]).length then (kv ++ [(k, v)]).eraseIdx 0 else (kv ++ [(k, v)])) h s] ∧ True := by
  refine GC.calls Try.func17 rfl rfl (St.begin1 hA hb) ?_
  refine GC.cc fun A1 c1 A2 c2 => ?_
  refine GC.seq ?_
  refine GC.seq ?_
  refine GC.reg ?_
  refine GL.val (rv_move rfl) rfl ?_
  refine GL.val (rv_nil rfl) rfl ?_
  refine GL.val (rv_field fo_55_1 rfl rfl) rfl ?_
  refine GL.val (rv_load ag_24 rfl (by first | exact Hd.cell (k := 0) rfl rfl | exact Hd.cell (k := 1) rfl rfl | exact Hd.cell (k := 2) rfl rfl | exact Hd.rowCell (k := 0) rfl (by assumption) | exact Hd.rowCell (k := 1) rfl (by assumption) | exact Hd.rowCell (k := 2) rfl (by assumption) | exact Hd.cell0 (by assumption) (by first | exact fun h => h | assumption))) rfl ?_
  refine GL.val (rv_move rfl) rfl ?_
  refine GL.step (ot_call hb_23 rfl (callOk fun w hh => index_no (ks := kv.map (·.1)) (by simpa [Function.comp_def] using hh.rowR (k := 1) rfl) (by simp) (by omega) hx) rfl fun _ _ => ?_)
  refine GL.val (rv_assign rfl) rfl ?_
  refine GL.nil ?_
  refine GX.then ?_
  refine GC.seq ?_
  refine GC.reg ?_
  refine GL.val (rv_move rfl) rfl ?_
  refine GL.val (rv_geq rfl rfl) rfl ?_
  refine GL.nil ?_
  refine GX.then ?_
  first | refine GC.condP rfl (fun c1 => ?_) (fun c1 => ?_) | refine GC.cond rfl (fun c1 => ?_) (fun c1 => ?_)
  · exact absurd c1 (by omega)
  · refine GC.skip ?_
    refine GX.then ?_
    refine GC.seq ?_
    refine GC.st (fun w h => St.cc h) ?_
    refine GC.reg ?_
    refine GL.val (rv_move rfl) rfl ?_
    refine GL.val (rv_move rfl) rfl ?_
    refine GL.val (rv_move rfl) rfl ?_
    refine GL.step (ot_call hb_25 rfl (callOkM (k := 0) rfl fun w S _ hA hb => last_c p m h s v k kv w S hA hb (by omega)) rfl fun _ _ => ?_)
    refine GL.nil ?_
    refine GX.then ?_
    refine GC.seq ?_
    refine GC.cc fun A3 c3 A4 c4 => ?_
    refine GC.draw 10 [0] mo_ ?_
    refine GD.pure (i := 0) rfl (fun _ _ => rv_move rfl) (by kernel_rfl) (by repeat (first | exact noPanicPut_body | exact noPanicPut_cut | exact noPanicPut_cutE | refine noPanicPut_then ?_ | refine noPanicPut_blk ?_)) ?_
    refine GD.pure (i := 1) rfl (fun _ _ => rv_nil rfl) (by kernel_rfl) (by repeat (first | exact noPanicPut_body | exact noPanicPut_cut | exact noPanicPut_cutE | refine noPanicPut_then ?_ | refine noPanicPut_blk ?_)) ?_
    refine GD.pure (i := 2) rfl (fun _ _ => rv_field fo_55_1 rfl rfl) (by kernel_rfl) (by repeat (first | exact noPanicPut_body | exact noPanicPut_cut | exact noPanicPut_cutE | refine noPanicPut_then ?_ | refine noPanicPut_blk ?_)) ?_
    refine GD.pure (i := 5) rfl (fun _ _ => rv_move rfl) (by kernel_rfl) (by repeat (first | exact noPanicPut_body | exact noPanicPut_cut | exact noPanicPut_cutE | refine noPanicPut_then ?_ | refine noPanicPut_blk ?_)) ?_
    refine GD.pure (i := 6) rfl (fun _ _ => rv_nil rfl) (by kernel_rfl) (by repeat (first | exact noPanicPut_body | exact noPanicPut_cut | exact noPanicPut_cutE | refine noPanicPut_then ?_ | refine noPanicPut_blk ?_)) ?_
    refine GD.pure (i := 7) rfl (fun _ _ => rv_field fo_55_0 rfl rfl) (by kernel_rfl) (by repeat (first | exact noPanicPut_body | exact noPanicPut_cut | exact noPanicPut_cutE | refine noPanicPut_then ?_ | refine noPanicPut_blk ?_)) ?_
    refine GD.read (i := 3) rfl (rv_load ag_24 rfl (by first | exact Hd.cell (k := 0) rfl rfl | exact Hd.rowCell (k := 0) rfl (by assumption) | exact Hd.cell0 (by assumption) (by first | exact fun h => h | assumption))) (by kernel_rfl) (by repeat (first | exact noPanicPut_body | exact noPanicPut_cut | exact noPanicPut_cutE | refine noPanicPut_then ?_ | refine noPanicPut_blk ?_)) ?_
    refine GD.pure (i := 4) rfl (fun _ _ => rv_lenSl Try.underlying24 rfl) (by kernel_rfl) (by repeat (first | exact noPanicPut_body | exact noPanicPut_cut | exact noPanicPut_cutE | refine noPanicPut_then ?_ | refine noPanicPut_blk ?_)) ?_
    refine GD.read (i := 8) rfl (rv_load ag_3 rfl (by first | exact Hd.cell (k := 0) rfl rfl | exact Hd.rowCell (k := 0) rfl (by assumption) | exact Hd.cell0 (by assumption) (by first | exact fun h => h | assumption))) (by kernel_rfl) (by repeat (first | exact noPanicPut_body | exact noPanicPut_cut | exact noPanicPut_cutE | refine noPanicPut_then ?_ | refine noPanicPut_blk ?_)) ?_
    refine GD.pure (i := 9) rfl (fun _ _ => rv_gtr rfl rfl) (by kernel_rfl) (by repeat (first | exact noPanicPut_body | exact noPanicPut_cut | exact noPanicPut_cutE | refine noPanicPut_then ?_ | refine noPanicPut_blk ?_)) ?_
    refine GD.done (by kernel_rfl) ?_
    refine GX.then ?_
    first | refine GC.condP rfl (fun c2 => ?_) (fun c2 => ?_) | refine GC.cond rfl (fun c2 => ?_) (fun c2 => ?_)
    · refine GC.st (fun w h => St.cc h) ?_
      refine GC.reg ?_
      refine GL.val (rv_move rfl) rfl ?_
      refine GL.step (ot_call hb_24 rfl (callOkM (k := 0) rfl fun w S _ hA hb => take_c p 0 m h s (kv ++ [(k, v)]) w S hA hb (by simp) (by simp; omega)) rfl fun _ _ => ?_)
      refine GL.nil ?_
      refine GX.end0 rfl ?_
      exact fun w h => ⟨(), rfl, by rw [if_pos c2]; exact h, trivial⟩
    · refine GC.skip ?_
      refine GX.end0 rfl ?_
      exact fun w h => ⟨(), rfl, by rw [if_neg c2]; exact St.cc h, trivial⟩
set_option maxRecDepth 100000 in
set_option maxHeartbeats 1000000 in
theorem drop_y (p : Nat) (m h s : Int) (k : ByteArray) (kv : List (ByteArray × Int)) (w : World) (S : Nat → Prop) (hA : (CcP p m kv h s).A S w) (hb : ∀ b, S b → b < w.heap.size) (hn : kv.length ≤ 100000) (hh0 : 0 ≤ h) (hh1 : h ≤ 1000000) (hs0 : 0 ≤ s) (hs1 : s ≤ 1000000) (hx :  Bc.ix (kv.map (·.1)) k < kv.length) :
    Calls Try.prog 18 [.pointer (some ⟨p, 0, none⟩), .string k].toArray w fun e w' => ∃ _g : Unit, e = .returned (.bool true) ∧ St S w w' [CcP p m (kv.eraseIdx (Bc.ix (kv.map (·.1)) k)) h s] ∧ True := by
  refine GC.calls Try.func18 rfl rfl (St.begin1 hA hb) ?_
  refine GC.cc fun A1 c1 A2 c2 => ?_
  refine GC.seq ?_
  refine GC.reg ?_
  refine GL.val (rv_assign rfl) rfl ?_
  refine GL.nil ?_
  refine GX.then ?_
  refine GC.seq ?_
  refine GC.reg ?_
  refine GL.val (rv_move rfl) rfl ?_
  refine GL.val (rv_nil rfl) rfl ?_
  refine GL.val (rv_field fo_55_1 rfl rfl) rfl ?_
  refine GL.val (rv_load ag_24 rfl (by first | exact Hd.cell (k := 0) rfl rfl | exact Hd.cell (k := 1) rfl rfl | exact Hd.cell (k := 2) rfl rfl | exact Hd.rowCell (k := 0) rfl (by assumption) | exact Hd.rowCell (k := 1) rfl (by assumption) | exact Hd.rowCell (k := 2) rfl (by assumption) | exact Hd.cell0 (by assumption) (by first | exact fun h => h | assumption))) rfl ?_
  refine GL.val (rv_move rfl) rfl ?_
  refine GL.step (ot_call hb_23 rfl (callOk fun w hh => index_yes (ks := kv.map (·.1)) (by simpa [Function.comp_def] using hh.rowR (k := 1) rfl) (by simp) (by omega) hx) rfl fun _ _ => ?_)
  refine GL.val (rv_assign rfl) rfl ?_
  refine GL.nil ?_
  refine GX.then ?_
  refine GC.seq ?_
  refine GC.seq ?_
  refine GC.reg ?_
  refine GL.val (rv_move rfl) rfl ?_
  refine GL.val (rv_geq rfl rfl) rfl ?_
  refine GL.nil ?_
  refine GX.then ?_
  first | refine GC.condP rfl (fun c1 => ?_) (fun c1 => ?_) | refine GC.cond rfl (fun c1 => ?_) (fun c1 => ?_)
  · refine GC.st (fun w h => St.cc h) ?_
    refine GC.reg ?_
    refine GL.val (rv_move rfl) rfl ?_
    refine GL.val (rv_move rfl) rfl ?_
    refine GL.step (ot_call hb_24 rfl (callOkM (k := 0) rfl fun w S _ hA hb => take_c p _ m h s kv w S hA hb hx (by omega)) rfl fun _ _ => ?_)
    refine GL.nil ?_
    refine GX.then ?_
    refine GC.seq ?_
    refine GC.reg ?_
    refine GL.val (rv_move rfl) rfl ?_
    refine GL.val (rv_geq rfl rfl) rfl ?_
    refine GL.val (rv_assign rfl) rfl ?_
    refine GL.nil ?_
    refine GX.then ?_
    refine GC.ret ?_
    refine GX.ret1 rfl (RR.tmp rfl) ?_
    exact fun w h => ⟨(), by simp, h, trivial⟩
  · exact absurd c1 (by omega)
set_option maxRecDepth 100000 in
set_option maxHeartbeats 1000000 in
theorem drop_n (p : Nat) (m h s : Int) (k : ByteArray) (kv : List (ByteArray × Int)) (w : World) (S : Nat → Prop) (hA : (CcP p m kv h s).A S w) (hb : ∀ b, S b → b < w.heap.size) (hn : kv.length ≤ 100000) (hh0 : 0 ≤ h) (hh1 : h ≤ 1000000) (hs0 : 0 ≤ s) (hs1 : s ≤ 1000000) (hx : ¬ Bc.ix (kv.map (·.1)) k < kv.length) :
    Calls Try.prog 18 [.pointer (some ⟨p, 0, none⟩), .string k].toArray w fun e w' => ∃ _g : Unit, e = .returned (.bool false) ∧ St S w w' [CcP p m kv h s] ∧ True := by
  refine GC.calls Try.func18 rfl rfl (St.begin1 hA hb) ?_
  refine GC.cc fun A1 c1 A2 c2 => ?_
  refine GC.seq ?_
  refine GC.reg ?_
  refine GL.val (rv_assign rfl) rfl ?_
  refine GL.nil ?_
  refine GX.then ?_
  refine GC.seq ?_
  refine GC.reg ?_
  refine GL.val (rv_move rfl) rfl ?_
  refine GL.val (rv_nil rfl) rfl ?_
  refine GL.val (rv_field fo_55_1 rfl rfl) rfl ?_
  refine GL.val (rv_load ag_24 rfl (by first | exact Hd.cell (k := 0) rfl rfl | exact Hd.cell (k := 1) rfl rfl | exact Hd.cell (k := 2) rfl rfl | exact Hd.rowCell (k := 0) rfl (by assumption) | exact Hd.rowCell (k := 1) rfl (by assumption) | exact Hd.rowCell (k := 2) rfl (by assumption) | exact Hd.cell0 (by assumption) (by first | exact fun h => h | assumption))) rfl ?_
  refine GL.val (rv_move rfl) rfl ?_
  refine GL.step (ot_call hb_23 rfl (callOk fun w hh => index_no (ks := kv.map (·.1)) (by simpa [Function.comp_def] using hh.rowR (k := 1) rfl) (by simp) (by omega) hx) rfl fun _ _ => ?_)
  refine GL.val (rv_assign rfl) rfl ?_
  refine GL.nil ?_
  refine GX.then ?_
  refine GC.seq ?_
  refine GC.seq ?_
  refine GC.reg ?_
  refine GL.val (rv_move rfl) rfl ?_
  refine GL.val (rv_geq rfl rfl) rfl ?_
  refine GL.nil ?_
  refine GX.then ?_
  first | refine GC.condP rfl (fun c1 => ?_) (fun c1 => ?_) | refine GC.cond rfl (fun c1 => ?_) (fun c1 => ?_)
  · exact absurd c1 (by omega)
  · refine GC.skip ?_
    refine GX.then ?_
    refine GC.seq ?_
    refine GC.reg ?_
    refine GL.val (rv_move rfl) rfl ?_
    refine GL.val (rv_geq rfl rfl) rfl ?_
    refine GL.val (rv_assign rfl) rfl ?_
    refine GL.nil ?_
    refine GX.then ?_
    refine GC.ret ?_
    refine GX.ret1 rfl (RR.tmp rfl) ?_
    exact fun w h => ⟨(), by simp, St.cc h, trivial⟩
set_option maxRecDepth 100000 in
set_option maxHeartbeats 1000000 in
theorem keys_c (p : Nat) (m h s : Int)  (kv : List (ByteArray × Int)) (w : World) (S : Nat → Prop) (hA : (CcP p m kv h s).A S w) (hb : ∀ b, S b → b < w.heap.size) (hn : kv.length ≤ 100000) (hh0 : 0 ≤ h) (hh1 : h ≤ 1000000) (hs0 : 0 ≤ s) (hs1 : s ≤ 1000000)  :
    Calls Try.prog 15 [.pointer (some ⟨p, 0, none⟩)].toArray w fun e w' => ∃ g : Option Addr × Nat, e = .returned (.slice g.1 kv.length g.2) ∧ St S w w' [CcP p m kv h s, .row g.1 g.2 9 1 kv.length (kv.map fun q => .string q.1)] ∧ True := by
  refine GC.calls Try.func15 rfl rfl (St.begin1 hA hb) ?_
  refine GC.cc fun A1 c1 A2 c2 => ?_
  refine GC.seq ?_
  refine GC.reg ?_
  refine GL.val (rv_assign rfl) rfl ?_
  refine GL.nil ?_
  refine GX.then ?_
  refine GC.seq ?_
  refine GC.reg ?_
  refine GL.val (rv_move rfl) rfl ?_
  refine GL.val (rv_nil rfl) rfl ?_
  refine GL.val (rv_field fo_55_1 rfl rfl) rfl ?_
  refine GL.val (rv_load ag_24 rfl (by first | exact Hd.cell (k := 0) rfl rfl | exact Hd.cell (k := 1) rfl rfl | exact Hd.cell (k := 2) rfl rfl | exact Hd.rowCell (k := 0) rfl (by assumption) | exact Hd.rowCell (k := 1) rfl (by assumption) | exact Hd.rowCell (k := 2) rfl (by assumption) | exact Hd.cell0 (by assumption) (by first | exact fun h => h | assumption))) rfl ?_
  refine GL.step (ot_call hb_26 rfl (callOk fun w hh => clone_c A1 c1 kv.length (kv.map fun q => .string q.1) w (hh.rowR (k := 1) rfl) (by simp) (by omega) (str_all kv)) rfl fun ⟨A7, c7⟩ _ => ?_)
  refine GL.val (rv_assign rfl) rfl ?_
  refine GL.nil ?_
  refine GX.then ?_
  refine GC.ret ?_
  refine GX.ret1 rfl (RR.tmp rfl) ?_
  exact fun w h => ⟨(A7, c7), rfl, St.cc (((h.pull (k := 3) rfl).pull (k := 3) rfl).pull (k := 3) rfl), trivial⟩
end Go.Proofs.Ytjbnblkefhpibaa
