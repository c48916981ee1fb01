import Derived.Test.YtjbnblkefhpibaaE
set_option linter.unusedVariables false
set_option linter.unusedSimpArgs false
namespace Go.Proofs.Ytjbnblkefhpibaa
open Go Go.RowKit Go.Bz
theorem fo_35_0 : fieldOff Try.prog 35 0 = some 0 := by kernel_rfl
theorem fo_35_1 : fieldOff Try.prog 35 1 = some 1 := by kernel_rfl
theorem fo_35_2 : fieldOff Try.prog 35 2 = some 2 := by kernel_rfl
theorem hb_12 : hasBody Try.prog 12 = true := by kernel_rfl
theorem hb_13 : hasBody Try.prog 13 = true := by kernel_rfl
theorem hb_17 : hasBody Try.prog 17 = true := by kernel_rfl
theorem hb_18 : hasBody Try.prog 18 = true := by kernel_rfl
theorem hb_20 : hasBody Try.prog 20 = true := by kernel_rfl
theorem hb_21 : hasBody Try.prog 21 = true := by kernel_rfl
theorem hb_22 : hasBody Try.prog 22 = true := by kernel_rfl

def ka : ByteArray := { data := #[97] }
def kb : ByteArray := { data := #[98] }
theorem kab : (ka = kb) = False := by simp [ka, kb]
theorem kba : (kb = ka) = False := by simp [ka, kb]
theorem wk_pu1 : Bc.pu (max 1 0) [] ka 1 = [(ka, 1)] := by simp [Bc.pu, Bc.wo]; omega
theorem wk_pu2 : Bc.pu (max 1 0) [(ka, 1)] kb 2 = [(kb, 2)] := by simp [Bc.pu, Bc.wo, kab]; omega
theorem wk_hsa : Bc.hs [(kb, 2)] ka = false := by simp [Bc.hs, kba]
theorem wk_hsb : Bc.hs [(kb, 2)] kb = true := by simp [Bc.hs]
theorem wk_gea : Bc.ge [(kb, 2)] ka = [(kb, 2)] := by simp [Bc.ge, wk_hsa]
theorem wk_geb : Bc.ge [(kb, 2)] kb = [(kb, 2)] := by simp [Bc.ge, wk_hsb, Bc.wo, Bc.vl]
theorem wk_vlb : Bc.vl [(kb, 2)] kb = 2 := by simp [Bc.vl]
theorem wk_p1 (p : Nat) (w : World) (S : Nat → Prop) (hA : (CcP p (max 1 0) [] 0 0).A S w) (hb : ∀ b, S b → b < w.heap.size) : Calls Try.prog 17 [.pointer (some ⟨p, 0, none⟩), .string ka, .int .i64 1].toArray w fun e w' => ∃ _g : Unit, e = .returned (.tuple #[]) ∧ St S w w' [CcP p (max 1 0) [(ka, 1)] 0 0] ∧ True := by
  have := put_u p (max 1 0) 0 0 ka [] w 1 S hA hb (by simp) (by omega) (by omega) (by omega) (by omega) (by simp [Bc.Ky])
  rwa [wk_pu1] at this
theorem wk_p2 (p : Nat) (w : World) (S : Nat → Prop) (hA : (CcP p (max 1 0) [(ka, 1)] 0 0).A S w) (hb : ∀ b, S b → b < w.heap.size) : Calls Try.prog 17 [.pointer (some ⟨p, 0, none⟩), .string kb, .int .i64 2].toArray w fun e w' => ∃ _g : Unit, e = .returned (.tuple #[]) ∧ St S w w' [CcP p (max 1 0) [(kb, 2)] 0 0] ∧ True := by
  have := put_u p (max 1 0) 0 0 kb [(ka, 1)] w 2 S hA hb (by simp) (by omega) (by omega) (by omega) (by omega) (by simp [Bc.Ky])
  rwa [wk_pu2] at this
theorem wk_g1 (p : Nat) (w : World) (S : Nat → Prop) (hA : (CcP p (max 1 0) [(kb, 2)] 0 0).A S w) (hb : ∀ b, S b → b < w.heap.size) : Calls Try.prog 12 [.pointer (some ⟨p, 0, none⟩), .string ka].toArray w fun e w' => ∃ _g : Unit, e = .returned (.tuple #[.int .i64 (Bc.vl [(kb, 2)] ka), .bool false]) ∧ St S w w' [CcP p (max 1 0) [(kb, 2)] 0 1] ∧ True := by
  have := get_u p (max 1 0) 0 0 ka [(kb, 2)] w S hA hb (by simp) (by omega) (by omega) (by omega) (by omega) (by simp [Bc.Ky])
  rw [wk_gea, wk_hsa] at this
  exact this
theorem wk_g2 (p : Nat) (w : World) (S : Nat → Prop) (hA : (CcP p (max 1 0) [(kb, 2)] 0 1).A S w) (hb : ∀ b, S b → b < w.heap.size) : Calls Try.prog 12 [.pointer (some ⟨p, 0, none⟩), .string kb].toArray w fun e w' => ∃ _g : Unit, e = .returned (.tuple #[.int .i64 2, .bool true]) ∧ St S w w' [CcP p (max 1 0) [(kb, 2)] 1 1] ∧ True := by
  have := get_u p (max 1 0) 0 1 kb [(kb, 2)] w S hA hb (by simp) (by omega) (by omega) (by omega) (by omega) (by simp [Bc.Ky])
  rw [wk_geb, wk_hsb, wk_vlb] at this
  exact this
theorem rput_u (m h s : Int) (A B : Option Addr) (c1 c2 : Nat) (kv : Bc.KV) (v : Int) (k : ByteArray) (w : World) (hK : SlR w A (kv.map fun q => .string q.1)) (hV : SlR w B (kv.map fun q => .int .i64 q.2)) (hn : kv.length ≤ 100000) :
    Calls Try.prog 21 [.agg #[.int .i64 m, .slice A kv.length c1, .slice B kv.length c2, .int .i64 h, .int .i64 s], .string k, .int .i64 v].toArray w fun e w' => ∃ g : (Option Addr × Nat) × (Option Addr × Nat), e = .returned (.agg #[.int .i64 m, .slice g.1.1 (Bc.pu m kv k v).length g.1.2, .slice g.2.1 (Bc.pu m kv k v).length g.2.2, .int .i64 h, .int .i64 s]) ∧ St noB w w' [roP g.1.1 ((Bc.pu m kv k v).map fun q => .string q.1), roP g.2.1 ((Bc.pu m kv k v).map fun q => .int .i64 q.2)] ∧ True := rput_c m h s A B c1 c2 kv v k w hK hV hn

set_option maxRecDepth 100000 in
set_option maxHeartbeats 1000000 in
theorem works_c (w : World) : Calls Try.prog 10 [].toArray w fun e w' => ∃ _g : Unit, e = .returned (.bool true) ∧ St noB w w' [] ∧ True := by
  refine GC.calls Try.func10 rfl rfl (St.begin _) ?_
  refine GC.seq ?_
  refine GC.reg ?_
  refine GL.val (rv_assign rfl) rfl ?_
  refine GL.nil ?_
  refine GX.then ?_
  refine GC.seq ?_
  refine GC.reg ?_
  refine GL.step (ot_call hb_16 rfl (callOk fun w hh => new_c 1 w) rfl fun p _ => ?_)
  refine GL.val (rv_assign rfl) rfl ?_
  refine GL.nil ?_
  refine GX.then ?_
  refine GC.seq ?_
  refine GC.seq ?_
  refine GC.reg ?_
  refine GL.val (rv_move rfl) rfl ?_
  refine GL.val (rv_ptrNil rfl rfl Try.underlying23) rfl ?_
  refine GL.nil ?_
  refine GX.then ?_
  first | refine GC.condP rfl (fun c1 => ?_) (fun c1 => ?_) | refine GC.cond rfl (fun c1 => ?_) (fun c1 => ?_)
  · exact absurd c1 (by simp)
  · refine GC.skip ?_
    refine GX.then ?_
    refine GC.seq ?_
    refine GC.reg ?_
    refine GL.val (rv_move rfl) rfl ?_
    refine GL.step (ot_call hb_17 rfl (callOkM (k := 0) rfl fun w S _ hA hb => wk_p1 p w S hA hb) rfl fun _ _ => ?_)
    refine GL.nil ?_
    refine GX.then ?_
    refine GC.seq ?_
    refine GC.reg ?_
    refine GL.val (rv_move rfl) rfl ?_
    refine GL.step (ot_call hb_17 rfl (callOkM (k := 0) rfl fun w S _ hA hb => wk_p2 p w S hA hb) rfl fun _ _ => ?_)
    refine GL.nil ?_
    refine GX.then ?_
    refine GC.seq ?_
    refine GC.reg ?_
    refine GL.val (rv_move rfl) rfl ?_
    refine GL.step (ot_call hb_12 rfl (callOkM (k := 0) rfl fun w S _ hA hb => wk_g1 p w S hA hb) rfl fun _ _ => ?_)
    refine GL.val (rv_move rfl) rfl ?_
    refine GL.val (rv_extract rfl rfl) rfl ?_
    refine GL.val (rv_extract rfl rfl) rfl ?_
    refine GL.val (rv_assign rfl) rfl ?_
    refine GL.val (rv_assign rfl) rfl ?_
    refine GL.nil ?_
    refine GX.then ?_
    refine GC.seq ?_
    refine GC.reg ?_
    refine GL.val (rv_move rfl) rfl ?_
    refine GL.step (ot_call hb_12 rfl (callOkM (k := 0) rfl fun w S _ hA hb => wk_g2 p w S hA hb) rfl fun _ _ => ?_)
    refine GL.val (rv_move rfl) rfl ?_
    refine GL.val (rv_extract rfl rfl) rfl ?_
    refine GL.val (rv_extract rfl rfl) rfl ?_
    refine GL.val (rv_assign rfl) rfl ?_
    refine GL.val (rv_assign rfl) rfl ?_
    refine GL.nil ?_
    refine GX.then ?_
    refine GC.seq ?_
    refine GC.reg ?_
    refine GL.val (rv_move rfl) rfl ?_
    refine GL.step (ot_call hb_13 rfl (callOkM (k := 0) rfl fun w S _ hA hb => count_c p _ 1 1 [(kb, 2)] w S hA hb) rfl fun _ _ => ?_)
    refine GL.val (rv_move rfl) rfl ?_
    refine GL.val (rv_extract rfl rfl) rfl ?_
    refine GL.val (rv_extract rfl rfl) rfl ?_
    refine GL.val (rv_assign rfl) rfl ?_
    refine GL.val (rv_assign rfl) rfl ?_
    refine GL.nil ?_
    refine GX.then ?_
    refine GC.seq ?_
    refine GC.reg ?_
    refine GL.val (rv_move rfl) rfl ?_
    refine GL.val (rv_not rfl) rfl ?_
    refine GL.val (rv_move rfl) rfl ?_
    first | refine GL.skipG rfl rfl ?_ | refine GL.skipU rfl rfl ?_ | refine GL.valT rfl (rv_move rfl) rfl ?_ | refine GL.valG rfl (fun hb => rv_move (by first | exact evb rfl hb | rfl)) rfl ?_
    refine GL.val ((by first | exact rv_andT rfl rfl rfl | exact rv_andF rfl rfl rfl | exact rv_pickAnd rfl rfl rfl)) rfl ?_
    refine GL.val (rv_move rfl) rfl ?_
    first | refine GL.skipG rfl rfl ?_ | refine GL.skipU rfl rfl ?_ | refine GL.valT rfl (rv_move rfl) rfl ?_ | refine GL.valG rfl (fun hb => rv_move (by first | exact evb rfl hb | rfl)) rfl ?_
    first | refine GL.skipG rfl rfl ?_ | refine GL.skipU rfl rfl ?_ | refine GL.valT rfl (rv_eqI rfl rfl) rfl ?_ | refine GL.valG rfl (fun hb => rv_eqI (by first | exact evb rfl hb | rfl) (by first | exact evb rfl hb | rfl)) rfl ?_
    refine GL.val ((by first | exact rv_andT rfl rfl rfl | exact rv_andF rfl rfl rfl | exact rv_pickAnd rfl rfl rfl)) rfl ?_
    refine GL.val (rv_move rfl) rfl ?_
    first | refine GL.skipG rfl rfl ?_ | refine GL.skipU rfl rfl ?_ | refine GL.valT rfl (rv_move rfl) rfl ?_ | refine GL.valG rfl (fun hb => rv_move (by first | exact evb rfl hb | rfl)) rfl ?_
    first | refine GL.skipG rfl rfl ?_ | refine GL.skipU rfl rfl ?_ | refine GL.valT rfl (rv_eqI rfl rfl) rfl ?_ | refine GL.valG rfl (fun hb => rv_eqI (by first | exact evb rfl hb | rfl) (by first | exact evb rfl hb | rfl)) rfl ?_
    refine GL.val ((by first | exact rv_andT rfl rfl rfl | exact rv_andF rfl rfl rfl | exact rv_pickAnd rfl rfl rfl)) rfl ?_
    refine GL.val (rv_move rfl) rfl ?_
    first | refine GL.skipG rfl rfl ?_ | refine GL.skipU rfl rfl ?_ | refine GL.valT rfl (rv_move rfl) rfl ?_ | refine GL.valG rfl (fun hb => rv_move (by first | exact evb rfl hb | rfl)) rfl ?_
    first | refine GL.skipG rfl rfl ?_ | refine GL.skipU rfl rfl ?_ | refine GL.valT rfl (rv_eqI rfl rfl) rfl ?_ | refine GL.valG rfl (fun hb => rv_eqI (by first | exact evb rfl hb | rfl) (by first | exact evb rfl hb | rfl)) rfl ?_
    refine GL.val ((by first | exact rv_andT rfl rfl rfl | exact rv_andF rfl rfl rfl | exact rv_pickAnd rfl rfl rfl)) rfl ?_
    refine GL.val (rv_assign rfl) rfl ?_
    refine GL.nil ?_
    refine GX.then ?_
    refine GC.ret ?_
    refine GX.ret1 rfl (RR.tmp rfl) ?_
    exact fun w1 h1 => ⟨(), rfl, h1.take 0, trivial⟩
set_option maxRecDepth 100000 in
set_option maxHeartbeats 1000000 in
theorem step_c (p j : Nat) (m h s kd v : Int) (K : ByteArray) (A B : Option Addr) (c1' c2' : Nat) (kv : Bc.KV) (w : World) (S : Nat → Prop)
    (hA : (grp [CcP p m kv h s, roP A (kv.map fun q => .string q.1), roP B (kv.map fun q => .int .i64 q.2)]).A S w) (hb : ∀ b, S b → b < w.heap.size) (hI : Bc.Inv m j (kv, h, s)) (hj : j ≤ 1000) :
    Calls Try.prog 11 [.pointer (some ⟨p, 0, none⟩), .agg #[.int .i64 m, .slice A kv.length c1', .slice B kv.length c2', .int .i64 h, .int .i64 s], .agg #[.int .i64 kd, .string K, .int .i64 v]].toArray w fun e w' => ∃ g : (Option Addr × Nat) × (Option Addr × Nat), e = .returned (.tuple #[.agg #[.int .i64 m, .slice g.1.1 (Bc.act m (kv, h, s) (kd, K, v)).1.length g.1.2, .slice g.2.1 (Bc.act m (kv, h, s) (kd, K, v)).1.length g.2.2, .int .i64 (Bc.act m (kv, h, s) (kd, K, v)).2.1, .int .i64 (Bc.act m (kv, h, s) (kd, K, v)).2.2], .bool true]) ∧ St S w w' [CcP p m (Bc.act m (kv, h, s) (kd, K, v)).1 (Bc.act m (kv, h, s) (kd, K, v)).2.1 (Bc.act m (kv, h, s) (kd, K, v)).2.2, roP g.1.1 ((Bc.act m (kv, h, s) (kd, K, v)).1.map fun q => .string q.1), roP g.2.1 ((Bc.act m (kv, h, s) (kd, K, v)).1.map fun q => .int .i64 q.2)] ∧ True := by
  refine GC.calls Try.func11 rfl rfl (St.begin1 hA hb) ?_
  refine GC.st (fun w h => h.ungrp) ?_
  have hn : kv.length ≤ 100000 := by have := hI.len; dsimp only at this; omega
  have hh0 : 0 ≤ h := hI.h0
  have hh1 : h ≤ 1000000 := by have := hI.h1; dsimp only at this; omega
  have hs0 : 0 ≤ s := hI.s0
  have hs1 : s ≤ 1000000 := by have := hI.s1; dsimp only at this; omega
  have hnd := hI.nd
  dsimp only at hnd
  refine GC.seq ?_
  refine GC.reg ?_
  refine GL.step (ot_box rfl rfl rfl fun b4 => ?_)
  refine GL.step (ot_box rfl rfl rfl fun b5 => ?_)
  refine GL.step (ot_alloc (zs := [.int .i64 0, .slice none 0 0, .slice none 0 0, .int .i64 0, .int .i64 0]) zb_27 rfl rfl fun b6 => ?_)
  refine GL.val (rv_assign rfl) rfl ?_
  refine GL.nil ?_
  refine GX.then ?_
  refine GC.seq ?_
  refine GC.reg ?_
  refine GL.val (rv_field fo_35_0 rfl rfl) rfl ?_
  refine GL.val (rv_load ag_3 rfl (by first | exact Hd.cell (k := 0) rfl rfl | exact Hd.cell (k := 1) rfl rfl | exact Hd.cell (k := 2) rfl rfl | exact Hd.cell (k := 3) rfl rfl | exact Hd.cell (k := 4) rfl rfl | exact Hd.cell (k := 5) rfl rfl | exact Hd.rowCell (k := 0) rfl (by assumption) | exact Hd.rowCell (k := 1) rfl (by assumption) | exact Hd.rowCell (k := 2) rfl (by assumption) | exact Hd.rowCell (k := 3) rfl (by assumption) | exact Hd.rowCell (k := 4) rfl (by assumption) | exact Hd.rowCell (k := 5) rfl (by assumption) | exact Hd.cell0 (by assumption) (by first | exact fun h => h | assumption))) rfl ?_
  refine GL.nil ?_
  refine GX.then ?_
  refine GC.block ?_
  refine GC.seq ?_
  refine GC.reg ?_
  refine GL.val (rv_eqI rfl rfl) rfl ?_
  refine GL.val (rv_assign rfl) rfl ?_
  refine GL.nil ?_
  refine GX.then ?_
  first | refine GC.condP rfl (fun c1 => ?_) (fun c1 => ?_) | refine GC.cond rfl (fun c1 => ?_) (fun c1 => ?_)
  · refine GC.seq ?_
    refine GC.reg ?_
    refine GL.val (rv_move rfl) rfl ?_
    refine GL.val (rv_field fo_35_1 rfl rfl) rfl ?_
    refine GL.val (rv_load ag_9 rfl (by first | exact Hd.cell (k := 0) rfl rfl | exact Hd.cell (k := 1) rfl rfl | exact Hd.cell (k := 2) rfl rfl | exact Hd.cell (k := 3) rfl rfl | exact Hd.cell (k := 4) rfl rfl | exact Hd.cell (k := 5) rfl rfl | exact Hd.rowCell (k := 0) rfl (by assumption) | exact Hd.rowCell (k := 1) rfl (by assumption) | exact Hd.rowCell (k := 2) rfl (by assumption) | exact Hd.rowCell (k := 3) rfl (by assumption) | exact Hd.rowCell (k := 4) rfl (by assumption) | exact Hd.rowCell (k := 5) rfl (by assumption) | exact Hd.cell0 (by assumption) (by first | exact fun h => h | assumption))) rfl ?_
    refine GL.step (ot_call hb_12 rfl (callOkM (k := 3) rfl fun w S _ hA hb => get_u p m h s K kv w S hA hb hn hh0 hh1 hs0 hs1 hnd) rfl fun _ _ => ?_)
    refine GL.val (rv_move rfl) rfl ?_
    refine GL.val (rv_extract rfl rfl) rfl ?_
    refine GL.val (rv_extract rfl rfl) rfl ?_
    refine GL.val (rv_assign rfl) rfl ?_
    refine GL.val (rv_assign rfl) rfl ?_
    refine GL.nil ?_
    refine GX.then ?_
    refine GC.seq ?_
    refine GC.reg ?_
    refine GL.val (rv_loadA ag_27 rfl (by first | exact Hd.cellsAll (k := 0) rfl | exact Hd.cellsAll (k := 1) rfl | exact Hd.cellsAll (k := 2) rfl | exact Hd.cellsAll (k := 3) rfl | exact Hd.cellsAll (k := 4) rfl | exact Hd.cellsAll (k := 5) rfl | exact Hd.cells0 (by assumption) (by first | exact fun h => h | assumption)) (by exact sz_27)) rfl ?_
    refine GL.val (rv_field fo_35_1 rfl rfl) rfl ?_
    refine GL.val (rv_load ag_9 rfl (by first | exact Hd.cell (k := 0) rfl rfl | exact Hd.cell (k := 1) rfl rfl | exact Hd.cell (k := 2) rfl rfl | exact Hd.cell (k := 3) rfl rfl | exact Hd.cell (k := 4) rfl rfl | exact Hd.cell (k := 5) rfl rfl | exact Hd.rowCell (k := 0) rfl (by assumption) | exact Hd.rowCell (k := 1) rfl (by assumption) | exact Hd.rowCell (k := 2) rfl (by assumption) | exact Hd.rowCell (k := 3) rfl (by assumption) | exact Hd.rowCell (k := 4) rfl (by assumption) | exact Hd.rowCell (k := 5) rfl (by assumption) | exact Hd.cell0 (by assumption) (by first | exact fun h => h | assumption))) rfl ?_
    refine GL.step (ot_call hb_20 rfl (callOk fun w hh => rget_u m h s A B c1' c2' kv K w (hh.ro (k := 4) rfl) (hh.ro (k := 5) rfl) hn hh0 hh1 hs0 hs1) rfl fun ⟨⟨A32, c32⟩, ⟨B32, d32⟩⟩ _ => ?_)
    refine GL.val (rv_move rfl) rfl ?_
    refine GL.val (rv_extract rfl rfl) rfl ?_
    refine GL.val (rv_extract rfl rfl) rfl ?_
    refine GL.val (rv_extract rfl rfl) rfl ?_
    refine GL.step (ot_alloc (zs := [.int .i64 0, .slice none 0 0, .slice none 0 0, .int .i64 0, .int .i64 0]) zb_27 rfl rfl fun b10 => ?_)
    first | refine GL.step (ot_store (k := 0) rfl rfl rfl rfl sz_27 rfl rfl (by first | ((simp only [repl, List.set_cons_zero, List.set_cons_succ]) <;> rfl) | rfl) ?_) | refine GL.step (ot_store (k := 1) rfl rfl rfl rfl sz_27 rfl rfl (by first | ((simp only [repl, List.set_cons_zero, List.set_cons_succ]) <;> rfl) | rfl) ?_) | refine GL.step (ot_store (k := 2) rfl rfl rfl rfl sz_27 rfl rfl (by first | ((simp only [repl, List.set_cons_zero, List.set_cons_succ]) <;> rfl) | rfl) ?_) | refine GL.step (ot_store (k := 3) rfl rfl rfl rfl sz_27 rfl rfl (by first | ((simp only [repl, List.set_cons_zero, List.set_cons_succ]) <;> rfl) | rfl) ?_) | refine GL.step (ot_store (k := 4) rfl rfl rfl rfl sz_27 rfl rfl (by first | ((simp only [repl, List.set_cons_zero, List.set_cons_succ]) <;> rfl) | rfl) ?_) | refine GL.step (ot_store (k := 5) rfl rfl rfl rfl sz_27 rfl rfl (by first | ((simp only [repl, List.set_cons_zero, List.set_cons_succ]) <;> rfl) | rfl) ?_) | refine GL.step (ot_store (k := 6) rfl rfl rfl rfl sz_27 rfl rfl (by first | ((simp only [repl, List.set_cons_zero, List.set_cons_succ]) <;> rfl) | rfl) ?_) | refine GL.step (ot_store (k := 7) rfl rfl rfl rfl sz_27 rfl rfl (by first | ((simp only [repl, List.set_cons_zero, List.set_cons_succ]) <;> rfl) | rfl) ?_) | refine GL.step (ot_store (k := 8) rfl rfl rfl rfl sz_27 rfl rfl (by first | ((simp only [repl, List.set_cons_zero, List.set_cons_succ]) <;> rfl) | rfl) ?_)
    refine GL.val (rv_assign rfl) rfl ?_
    refine GL.val (rv_assign rfl) rfl ?_
    refine GL.nil ?_
    refine GX.then ?_
    refine GC.seq ?_
    refine GC.reg ?_
    refine GL.val (rv_loadA ag_27 rfl (by first | exact Hd.cellsAll (k := 0) rfl | exact Hd.cellsAll (k := 1) rfl | exact Hd.cellsAll (k := 2) rfl | exact Hd.cellsAll (k := 3) rfl | exact Hd.cellsAll (k := 4) rfl | exact Hd.cellsAll (k := 5) rfl | exact Hd.cellsAll (k := 6) rfl | exact Hd.cellsAll (k := 7) rfl | exact Hd.cellsAll (k := 8) rfl | exact Hd.cells0 (by assumption) (by first | exact fun h => h | assumption)) (by exact sz_27)) rfl ?_
    refine GL.val (rv_move rfl) rfl ?_
    refine GL.val (rv_move rfl) rfl ?_
    refine GL.val (rv_to (v' := .bool true) (rv_eqI rfl rfl) (by simp)) rfl ?_
    refine GL.val (rv_move rfl) rfl ?_
    first | refine GL.skipG rfl rfl ?_ | refine GL.skipU rfl rfl ?_ | refine GL.valT rfl (rv_move rfl) rfl ?_ | refine GL.valG rfl (fun hb => rv_move (by first | exact evb rfl hb | rfl)) rfl ?_
    first | refine GL.skipG rfl rfl ?_ | refine GL.skipU rfl rfl ?_ | refine GL.valT rfl (rv_move rfl) rfl ?_ | refine GL.valG rfl (fun hb => rv_move (by first | exact evb rfl hb | rfl)) rfl ?_
    first | refine GL.skipG rfl rfl ?_ | refine GL.skipU rfl rfl ?_ | refine GL.valT rfl (rv_to (v' := .bool true) (rv_eqB rfl rfl (run_eqBool Try.underlying4)) (by simp)) rfl ?_ | refine GL.valG rfl (fun hb => rv_to (v' := .bool true) (rv_eqB (by first | exact evb rfl hb | rfl) (by first | exact evb rfl hb | rfl) (run_eqBool Try.underlying4)) (by simp)) rfl ?_
    refine GL.val (rv_andT rfl rfl rfl) rfl ?_
    first | refine GL.step (ot_store (k := 0) rfl rfl rfl rfl sz_27 rfl rfl (by first | ((simp only [repl, List.set_cons_zero, List.set_cons_succ]) <;> rfl) | rfl) ?_) | refine GL.step (ot_store (k := 1) rfl rfl rfl rfl sz_27 rfl rfl (by first | ((simp only [repl, List.set_cons_zero, List.set_cons_succ]) <;> rfl) | rfl) ?_) | refine GL.step (ot_store (k := 2) rfl rfl rfl rfl sz_27 rfl rfl (by first | ((simp only [repl, List.set_cons_zero, List.set_cons_succ]) <;> rfl) | rfl) ?_) | refine GL.step (ot_store (k := 3) rfl rfl rfl rfl sz_27 rfl rfl (by first | ((simp only [repl, List.set_cons_zero, List.set_cons_succ]) <;> rfl) | rfl) ?_) | refine GL.step (ot_store (k := 4) rfl rfl rfl rfl sz_27 rfl rfl (by first | ((simp only [repl, List.set_cons_zero, List.set_cons_succ]) <;> rfl) | rfl) ?_) | refine GL.step (ot_store (k := 5) rfl rfl rfl rfl sz_27 rfl rfl (by first | ((simp only [repl, List.set_cons_zero, List.set_cons_succ]) <;> rfl) | rfl) ?_) | refine GL.step (ot_store (k := 6) rfl rfl rfl rfl sz_27 rfl rfl (by first | ((simp only [repl, List.set_cons_zero, List.set_cons_succ]) <;> rfl) | rfl) ?_) | refine GL.step (ot_store (k := 7) rfl rfl rfl rfl sz_27 rfl rfl (by first | ((simp only [repl, List.set_cons_zero, List.set_cons_succ]) <;> rfl) | rfl) ?_) | refine GL.step (ot_store (k := 8) rfl rfl rfl rfl sz_27 rfl rfl (by first | ((simp only [repl, List.set_cons_zero, List.set_cons_succ]) <;> rfl) | rfl) ?_)
    refine GL.val (rv_assign rfl) rfl ?_
    refine GL.nil ?_
    refine GX.then ?_
    refine GC.ret ?_
    refine GX.blk_ret ?_
    refine GX.ret2 rfl (RR.cell ag_27 rfl (by first | exact Hd.cellsAll (k := 0) rfl | exact Hd.cellsAll (k := 1) rfl | exact Hd.cellsAll (k := 2) rfl | exact Hd.cellsAll (k := 3) rfl | exact Hd.cellsAll (k := 4) rfl | exact Hd.cellsAll (k := 5) rfl | exact Hd.cellsAll (k := 6) rfl | exact Hd.cellsAll (k := 7) rfl | exact Hd.cellsAll (k := 8) rfl | exact Hd.cells0 (by assumption) (by first | exact fun h => h | assumption)) (by exact sz_27)) (RR.tmp rfl) ?_
    have e : Bc.act m (kv, h, s) (kd, K, v) = (Bc.ge kv K, if Bc.hs kv K = true then h + 1 else h, if Bc.hs kv K = true then s else s + 1) := by simp [Bc.act, c1]
    rw [e]
    exact fun w1 h1 => ⟨((A32, c32), (B32, d32)), rfl, ((h1.pull (k := 3) rfl).drop 1).take 3, trivial⟩
  · refine GC.seq ?_
    refine GC.reg ?_
    refine GL.val (rv_eqI rfl rfl) rfl ?_
    refine GL.val (rv_assign rfl) rfl ?_
    refine GL.nil ?_
    refine GX.then ?_
    first | refine GC.condP rfl (fun c2 => ?_) (fun c2 => ?_) | refine GC.cond rfl (fun c2 => ?_) (fun c2 => ?_)
    · refine GC.seq ?_
      refine GC.reg ?_
      refine GL.val (rv_move rfl) rfl ?_
      refine GL.val (rv_field fo_35_1 rfl rfl) rfl ?_
      refine GL.val (rv_load ag_9 rfl (by first | exact Hd.cell (k := 0) rfl rfl | exact Hd.cell (k := 1) rfl rfl | exact Hd.cell (k := 2) rfl rfl | exact Hd.cell (k := 3) rfl rfl | exact Hd.cell (k := 4) rfl rfl | exact Hd.cell (k := 5) rfl rfl | exact Hd.rowCell (k := 0) rfl (by assumption) | exact Hd.rowCell (k := 1) rfl (by assumption) | exact Hd.rowCell (k := 2) rfl (by assumption) | exact Hd.rowCell (k := 3) rfl (by assumption) | exact Hd.rowCell (k := 4) rfl (by assumption) | exact Hd.rowCell (k := 5) rfl (by assumption) | exact Hd.cell0 (by assumption) (by first | exact fun h => h | assumption))) rfl ?_
      refine GL.val (rv_field fo_35_2 rfl rfl) rfl ?_
      refine GL.val (rv_load ag_3 rfl (by first | exact Hd.cell (k := 0) rfl rfl | exact Hd.cell (k := 1) rfl rfl | exact Hd.cell (k := 2) rfl rfl | exact Hd.cell (k := 3) rfl rfl | exact Hd.cell (k := 4) rfl rfl | exact Hd.cell (k := 5) rfl rfl | exact Hd.rowCell (k := 0) rfl (by assumption) | exact Hd.rowCell (k := 1) rfl (by assumption) | exact Hd.rowCell (k := 2) rfl (by assumption) | exact Hd.rowCell (k := 3) rfl (by assumption) | exact Hd.rowCell (k := 4) rfl (by assumption) | exact Hd.rowCell (k := 5) rfl (by assumption) | exact Hd.cell0 (by assumption) (by first | exact fun h => h | assumption))) rfl ?_
      refine GL.step (ot_call hb_17 rfl (callOkM (k := 3) rfl fun w S _ hA hb => put_u p m h s K kv w v S hA hb hn hh0 hh1 hs0 hs1 hnd) rfl fun _ _ => ?_)
      refine GL.nil ?_
      refine GX.then ?_
      refine GC.seq ?_
      refine GC.reg ?_
      refine GL.val (rv_loadA ag_27 rfl (by first | exact Hd.cellsAll (k := 0) rfl | exact Hd.cellsAll (k := 1) rfl | exact Hd.cellsAll (k := 2) rfl | exact Hd.cellsAll (k := 3) rfl | exact Hd.cellsAll (k := 4) rfl | exact Hd.cellsAll (k := 5) rfl | exact Hd.cells0 (by assumption) (by first | exact fun h => h | assumption)) (by exact sz_27)) rfl ?_
      refine GL.val (rv_field fo_35_1 rfl rfl) rfl ?_
      refine GL.val (rv_load ag_9 rfl (by first | exact Hd.cell (k := 0) rfl rfl | exact Hd.cell (k := 1) rfl rfl | exact Hd.cell (k := 2) rfl rfl | exact Hd.cell (k := 3) rfl rfl | exact Hd.cell (k := 4) rfl rfl | exact Hd.cell (k := 5) rfl rfl | exact Hd.rowCell (k := 0) rfl (by assumption) | exact Hd.rowCell (k := 1) rfl (by assumption) | exact Hd.rowCell (k := 2) rfl (by assumption) | exact Hd.rowCell (k := 3) rfl (by assumption) | exact Hd.rowCell (k := 4) rfl (by assumption) | exact Hd.rowCell (k := 5) rfl (by assumption) | exact Hd.cell0 (by assumption) (by first | exact fun h => h | assumption))) rfl ?_
      refine GL.val (rv_field fo_35_2 rfl rfl) rfl ?_
      refine GL.val (rv_load ag_3 rfl (by first | exact Hd.cell (k := 0) rfl rfl | exact Hd.cell (k := 1) rfl rfl | exact Hd.cell (k := 2) rfl rfl | exact Hd.cell (k := 3) rfl rfl | exact Hd.cell (k := 4) rfl rfl | exact Hd.cell (k := 5) rfl rfl | exact Hd.rowCell (k := 0) rfl (by assumption) | exact Hd.rowCell (k := 1) rfl (by assumption) | exact Hd.rowCell (k := 2) rfl (by assumption) | exact Hd.rowCell (k := 3) rfl (by assumption) | exact Hd.rowCell (k := 4) rfl (by assumption) | exact Hd.rowCell (k := 5) rfl (by assumption) | exact Hd.cell0 (by assumption) (by first | exact fun h => h | assumption))) rfl ?_
      refine GL.step (ot_call hb_21 rfl (callOk fun w hh => rput_u m h s A B c1' c2' kv v K w (hh.ro (k := 4) rfl) (hh.ro (k := 5) rfl) hn) rfl fun ⟨⟨A32, c32⟩, ⟨B32, d32⟩⟩ _ => ?_)
      first | refine GL.step (ot_store (k := 0) rfl rfl rfl rfl sz_27 rfl rfl (by first | ((simp only [repl, List.set_cons_zero, List.set_cons_succ]) <;> rfl) | rfl) ?_) | refine GL.step (ot_store (k := 1) rfl rfl rfl rfl sz_27 rfl rfl (by first | ((simp only [repl, List.set_cons_zero, List.set_cons_succ]) <;> rfl) | rfl) ?_) | refine GL.step (ot_store (k := 2) rfl rfl rfl rfl sz_27 rfl rfl (by first | ((simp only [repl, List.set_cons_zero, List.set_cons_succ]) <;> rfl) | rfl) ?_) | refine GL.step (ot_store (k := 3) rfl rfl rfl rfl sz_27 rfl rfl (by first | ((simp only [repl, List.set_cons_zero, List.set_cons_succ]) <;> rfl) | rfl) ?_) | refine GL.step (ot_store (k := 4) rfl rfl rfl rfl sz_27 rfl rfl (by first | ((simp only [repl, List.set_cons_zero, List.set_cons_succ]) <;> rfl) | rfl) ?_) | refine GL.step (ot_store (k := 5) rfl rfl rfl rfl sz_27 rfl rfl (by first | ((simp only [repl, List.set_cons_zero, List.set_cons_succ]) <;> rfl) | rfl) ?_) | refine GL.step (ot_store (k := 6) rfl rfl rfl rfl sz_27 rfl rfl (by first | ((simp only [repl, List.set_cons_zero, List.set_cons_succ]) <;> rfl) | rfl) ?_) | refine GL.step (ot_store (k := 7) rfl rfl rfl rfl sz_27 rfl rfl (by first | ((simp only [repl, List.set_cons_zero, List.set_cons_succ]) <;> rfl) | rfl) ?_)
      refine GL.val (rv_assign rfl) rfl ?_
      refine GL.nil ?_
      refine GX.then ?_
      refine GC.ret ?_
      refine GX.blk_ret ?_
      refine GX.ret2 rfl (RR.cell ag_27 rfl (by first | exact Hd.cellsAll (k := 0) rfl | exact Hd.cellsAll (k := 1) rfl | exact Hd.cellsAll (k := 2) rfl | exact Hd.cellsAll (k := 3) rfl | exact Hd.cellsAll (k := 4) rfl | exact Hd.cellsAll (k := 5) rfl | exact Hd.cellsAll (k := 6) rfl | exact Hd.cellsAll (k := 7) rfl | exact Hd.cells0 (by assumption) (by first | exact fun h => h | assumption)) (by exact sz_27)) (RR.tmp rfl) ?_
      have e : Bc.act m (kv, h, s) (kd, K, v) = (Bc.pu m kv K v, h, s) := by simp [Bc.act, c2]
      rw [e]
      exact fun w1 h1 => ⟨((A32, c32), (B32, d32)), rfl, (h1.pull (k := 2) rfl).take 3, trivial⟩
    · refine GC.seq ?_
      refine GC.reg ?_
      refine GL.val (rv_eqI rfl rfl) rfl ?_
      refine GL.val (rv_assign rfl) rfl ?_
      refine GL.nil ?_
      refine GX.then ?_
      first | refine GC.condP rfl (fun c3 => ?_) (fun c3 => ?_) | refine GC.cond rfl (fun c3 => ?_) (fun c3 => ?_)
      · refine GC.seq ?_
        refine GC.reg ?_
        refine GL.val (rv_move rfl) rfl ?_
        refine GL.val (rv_field fo_35_1 rfl rfl) rfl ?_
        refine GL.val (rv_load ag_9 rfl (by first | exact Hd.cell (k := 0) rfl rfl | exact Hd.cell (k := 1) rfl rfl | exact Hd.cell (k := 2) rfl rfl | exact Hd.cell (k := 3) rfl rfl | exact Hd.cell (k := 4) rfl rfl | exact Hd.cell (k := 5) rfl rfl | exact Hd.rowCell (k := 0) rfl (by assumption) | exact Hd.rowCell (k := 1) rfl (by assumption) | exact Hd.rowCell (k := 2) rfl (by assumption) | exact Hd.rowCell (k := 3) rfl (by assumption) | exact Hd.rowCell (k := 4) rfl (by assumption) | exact Hd.rowCell (k := 5) rfl (by assumption) | exact Hd.cell0 (by assumption) (by first | exact fun h => h | assumption))) rfl ?_
        refine GL.step (ot_call hb_18 rfl (callOkM (k := 3) rfl fun w S _ hA hb => drop_u p m h s K kv w S hA hb hn hh0 hh1 hs0 hs1 hnd) rfl fun _ _ => ?_)
        refine GL.val (rv_assign rfl) rfl ?_
        refine GL.nil ?_
        refine GX.then ?_
        refine GC.seq ?_
        refine GC.reg ?_
        refine GL.val (rv_loadA ag_27 rfl (by first | exact Hd.cellsAll (k := 0) rfl | exact Hd.cellsAll (k := 1) rfl | exact Hd.cellsAll (k := 2) rfl | exact Hd.cellsAll (k := 3) rfl | exact Hd.cellsAll (k := 4) rfl | exact Hd.cellsAll (k := 5) rfl | exact Hd.cells0 (by assumption) (by first | exact fun h => h | assumption)) (by exact sz_27)) rfl ?_
        refine GL.val (rv_field fo_35_1 rfl rfl) rfl ?_
        refine GL.val (rv_load ag_9 rfl (by first | exact Hd.cell (k := 0) rfl rfl | exact Hd.cell (k := 1) rfl rfl | exact Hd.cell (k := 2) rfl rfl | exact Hd.cell (k := 3) rfl rfl | exact Hd.cell (k := 4) rfl rfl | exact Hd.cell (k := 5) rfl rfl | exact Hd.rowCell (k := 0) rfl (by assumption) | exact Hd.rowCell (k := 1) rfl (by assumption) | exact Hd.rowCell (k := 2) rfl (by assumption) | exact Hd.rowCell (k := 3) rfl (by assumption) | exact Hd.rowCell (k := 4) rfl (by assumption) | exact Hd.rowCell (k := 5) rfl (by assumption) | exact Hd.cell0 (by assumption) (by first | exact fun h => h | assumption))) rfl ?_
        refine GL.step (ot_call hb_22 rfl (callOk fun w hh => rdrop_c m h s A B c1' c2' kv K w (hh.ro (k := 4) rfl) (hh.ro (k := 5) rfl) hn) rfl fun ⟨⟨A32, c32⟩, ⟨B32, d32⟩⟩ _ => ?_)
        refine GL.val (rv_move rfl) rfl ?_
        refine GL.val (rv_extract rfl rfl) rfl ?_
        refine GL.val (rv_extract rfl rfl) rfl ?_
        refine GL.step (ot_alloc (zs := [.int .i64 0, .slice none 0 0, .slice none 0 0, .int .i64 0, .int .i64 0]) zb_27 rfl rfl fun b14 => ?_)
        first | refine GL.step (ot_store (k := 0) rfl rfl rfl rfl sz_27 rfl rfl (by first | ((simp only [repl, List.set_cons_zero, List.set_cons_succ]) <;> rfl) | rfl) ?_) | refine GL.step (ot_store (k := 1) rfl rfl rfl rfl sz_27 rfl rfl (by first | ((simp only [repl, List.set_cons_zero, List.set_cons_succ]) <;> rfl) | rfl) ?_) | refine GL.step (ot_store (k := 2) rfl rfl rfl rfl sz_27 rfl rfl (by first | ((simp only [repl, List.set_cons_zero, List.set_cons_succ]) <;> rfl) | rfl) ?_) | refine GL.step (ot_store (k := 3) rfl rfl rfl rfl sz_27 rfl rfl (by first | ((simp only [repl, List.set_cons_zero, List.set_cons_succ]) <;> rfl) | rfl) ?_) | refine GL.step (ot_store (k := 4) rfl rfl rfl rfl sz_27 rfl rfl (by first | ((simp only [repl, List.set_cons_zero, List.set_cons_succ]) <;> rfl) | rfl) ?_) | refine GL.step (ot_store (k := 5) rfl rfl rfl rfl sz_27 rfl rfl (by first | ((simp only [repl, List.set_cons_zero, List.set_cons_succ]) <;> rfl) | rfl) ?_) | refine GL.step (ot_store (k := 6) rfl rfl rfl rfl sz_27 rfl rfl (by first | ((simp only [repl, List.set_cons_zero, List.set_cons_succ]) <;> rfl) | rfl) ?_) | refine GL.step (ot_store (k := 7) rfl rfl rfl rfl sz_27 rfl rfl (by first | ((simp only [repl, List.set_cons_zero, List.set_cons_succ]) <;> rfl) | rfl) ?_) | refine GL.step (ot_store (k := 8) rfl rfl rfl rfl sz_27 rfl rfl (by first | ((simp only [repl, List.set_cons_zero, List.set_cons_succ]) <;> rfl) | rfl) ?_)
        refine GL.val (rv_assign rfl) rfl ?_
        refine GL.nil ?_
        refine GX.then ?_
        refine GC.seq ?_
        refine GC.reg ?_
        refine GL.val (rv_loadA ag_27 rfl (by first | exact Hd.cellsAll (k := 0) rfl | exact Hd.cellsAll (k := 1) rfl | exact Hd.cellsAll (k := 2) rfl | exact Hd.cellsAll (k := 3) rfl | exact Hd.cellsAll (k := 4) rfl | exact Hd.cellsAll (k := 5) rfl | exact Hd.cellsAll (k := 6) rfl | exact Hd.cellsAll (k := 7) rfl | exact Hd.cellsAll (k := 8) rfl | exact Hd.cells0 (by assumption) (by first | exact fun h => h | assumption)) (by exact sz_27)) rfl ?_
        refine GL.val (rv_move rfl) rfl ?_
        refine GL.val (rv_move rfl) rfl ?_
        refine GL.val (rv_to (v' := .bool true) (rv_eqB rfl rfl (run_eqBool Try.underlying4)) (by simp)) rfl ?_
        first | refine GL.step (ot_store (k := 0) rfl rfl rfl rfl sz_27 rfl rfl (by first | ((simp only [repl, List.set_cons_zero, List.set_cons_succ]) <;> rfl) | rfl) ?_) | refine GL.step (ot_store (k := 1) rfl rfl rfl rfl sz_27 rfl rfl (by first | ((simp only [repl, List.set_cons_zero, List.set_cons_succ]) <;> rfl) | rfl) ?_) | refine GL.step (ot_store (k := 2) rfl rfl rfl rfl sz_27 rfl rfl (by first | ((simp only [repl, List.set_cons_zero, List.set_cons_succ]) <;> rfl) | rfl) ?_) | refine GL.step (ot_store (k := 3) rfl rfl rfl rfl sz_27 rfl rfl (by first | ((simp only [repl, List.set_cons_zero, List.set_cons_succ]) <;> rfl) | rfl) ?_) | refine GL.step (ot_store (k := 4) rfl rfl rfl rfl sz_27 rfl rfl (by first | ((simp only [repl, List.set_cons_zero, List.set_cons_succ]) <;> rfl) | rfl) ?_) | refine GL.step (ot_store (k := 5) rfl rfl rfl rfl sz_27 rfl rfl (by first | ((simp only [repl, List.set_cons_zero, List.set_cons_succ]) <;> rfl) | rfl) ?_) | refine GL.step (ot_store (k := 6) rfl rfl rfl rfl sz_27 rfl rfl (by first | ((simp only [repl, List.set_cons_zero, List.set_cons_succ]) <;> rfl) | rfl) ?_) | refine GL.step (ot_store (k := 7) rfl rfl rfl rfl sz_27 rfl rfl (by first | ((simp only [repl, List.set_cons_zero, List.set_cons_succ]) <;> rfl) | rfl) ?_) | refine GL.step (ot_store (k := 8) rfl rfl rfl rfl sz_27 rfl rfl (by first | ((simp only [repl, List.set_cons_zero, List.set_cons_succ]) <;> rfl) | rfl) ?_)
        refine GL.val (rv_assign rfl) rfl ?_
        refine GL.nil ?_
        refine GX.then ?_
        refine GC.ret ?_
        refine GX.blk_ret ?_
        refine GX.ret2 rfl (RR.cell ag_27 rfl (by first | exact Hd.cellsAll (k := 0) rfl | exact Hd.cellsAll (k := 1) rfl | exact Hd.cellsAll (k := 2) rfl | exact Hd.cellsAll (k := 3) rfl | exact Hd.cellsAll (k := 4) rfl | exact Hd.cellsAll (k := 5) rfl | exact Hd.cellsAll (k := 6) rfl | exact Hd.cellsAll (k := 7) rfl | exact Hd.cellsAll (k := 8) rfl | exact Hd.cells0 (by assumption) (by first | exact fun h => h | assumption)) (by exact sz_27)) (RR.tmp rfl) ?_
        have e : Bc.act m (kv, h, s) (kd, K, v) = (Bc.wo kv K, h, s) := by simp [Bc.act, c3]
        rw [e]
        exact fun w1 h1 => ⟨((A32, c32), (B32, d32)), rfl, ((h1.pull (k := 3) rfl).drop 1).take 3, trivial⟩
      · refine GC.seq ?_
        refine GC.reg ?_
        refine GL.val (rv_loadA ag_27 rfl (by first | exact Hd.cellsAll (k := 0) rfl | exact Hd.cellsAll (k := 1) rfl | exact Hd.cellsAll (k := 2) rfl | exact Hd.cellsAll (k := 3) rfl | exact Hd.cellsAll (k := 4) rfl | exact Hd.cellsAll (k := 5) rfl | exact Hd.cells0 (by assumption) (by first | exact fun h => h | assumption)) (by exact sz_27)) rfl ?_
        first | refine GL.step (ot_store (k := 0) rfl rfl rfl rfl sz_27 rfl rfl (by first | ((simp only [repl, List.set_cons_zero, List.set_cons_succ]) <;> rfl) | rfl) ?_) | refine GL.step (ot_store (k := 1) rfl rfl rfl rfl sz_27 rfl rfl (by first | ((simp only [repl, List.set_cons_zero, List.set_cons_succ]) <;> rfl) | rfl) ?_) | refine GL.step (ot_store (k := 2) rfl rfl rfl rfl sz_27 rfl rfl (by first | ((simp only [repl, List.set_cons_zero, List.set_cons_succ]) <;> rfl) | rfl) ?_) | refine GL.step (ot_store (k := 3) rfl rfl rfl rfl sz_27 rfl rfl (by first | ((simp only [repl, List.set_cons_zero, List.set_cons_succ]) <;> rfl) | rfl) ?_) | refine GL.step (ot_store (k := 4) rfl rfl rfl rfl sz_27 rfl rfl (by first | ((simp only [repl, List.set_cons_zero, List.set_cons_succ]) <;> rfl) | rfl) ?_) | refine GL.step (ot_store (k := 5) rfl rfl rfl rfl sz_27 rfl rfl (by first | ((simp only [repl, List.set_cons_zero, List.set_cons_succ]) <;> rfl) | rfl) ?_)
        refine GL.val (rv_assign rfl) rfl ?_
        refine GL.nil ?_
        refine GX.then ?_
        refine GC.ret ?_
        refine GX.blk_ret ?_
        refine GX.ret2 rfl (RR.cell ag_27 rfl (by first | exact Hd.cellsAll (k := 0) rfl | exact Hd.cellsAll (k := 1) rfl | exact Hd.cellsAll (k := 2) rfl | exact Hd.cellsAll (k := 3) rfl | exact Hd.cellsAll (k := 4) rfl | exact Hd.cellsAll (k := 5) rfl | exact Hd.cells0 (by assumption) (by first | exact fun h => h | assumption)) (by exact sz_27)) (RR.tmp rfl) ?_
        have e : Bc.act m (kv, h, s) (kd, K, v) = (kv, h, s) := by simp [Bc.act, c1, c2, c3]
        rw [e]
        exact fun w1 h1 => ⟨((A, c1'), (B, c2')), rfl, ((h1.drop 0).drop 0).drop 0, trivial⟩
end Go.Proofs.Ytjbnblkefhpibaa
