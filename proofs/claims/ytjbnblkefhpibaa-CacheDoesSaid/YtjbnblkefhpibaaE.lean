import Derived.Test.YtjbnblkefhpibaaD
import Derived.Test.YtjbnblkefhpibaaGd
import Derived.Test.YtjbnblkefhpibaaLaw16
set_option linter.unusedVariables false
set_option linter.unusedSimpArgs false
namespace Go.Proofs.Ytjbnblkefhpibaa
open Go Go.RowKit Go.Bz
theorem hb_16 : hasBody Try.prog 16 = true := by kernel_rfl
theorem hb_19 : hasBody Try.prog 19 = true := by kernel_rfl

section
variable (p : Nat) (m h s : Int) (k : ByteArray) (kv : Bc.KV) (w : World)
theorem get_u (S : Nat → Prop) (hA : (CcP p m kv h s).A S w) (hb : ∀ b, S b → b < w.heap.size) (hn : kv.length ≤ 100000) (hh0 : 0 ≤ h) (hh1 : h ≤ 1000000) (hs0 : 0 ≤ s) (hs1 : s ≤ 1000000) (hnd : (Bc.Ky kv).Nodup) :
    Calls Try.prog 12 [.pointer (some ⟨p, 0, none⟩), .string k].toArray w fun e w' => ∃ _g : Unit, e = .returned (.tuple #[.int .i64 (Bc.vl kv k), .bool (Bc.hs kv k)]) ∧ St S w w' [CcP p m (Bc.ge kv k) (if Bc.hs kv k = true then h + 1 else h) (if Bc.hs kv k = true then s else s + 1)] ∧ True := by
  by_cases hx : Bc.ix (kv.map (·.1)) k < kv.length
  · have e := (Bc.hs_iff kv k).2 hx
    refine (get_y p m h s k kv w S hA hb hn hh0 hh1 hs0 hs1 hx).mono fun en w' ⟨_, he, hc, _⟩ => ⟨(), ?_, ?_, trivial⟩
    · rw [he, e, Bc.vl_ix kv k hnd hx]
    · rw [Bc.er_ix kv k hnd hx, Bc.vl_ix kv k hnd hx] at hc
      unfold Bc.ge
      rw [if_pos e, if_pos e, if_pos e]; exact hc
  · have e : Bc.hs kv k = false := by cases e : Bc.hs kv k with
      | false => rfl
      | true => exact absurd ((Bc.hs_iff kv k).1 e) hx
    refine (get_n p m h s k kv w S hA hb hn hh0 hh1 hs0 hs1 hx).mono fun en w' ⟨_, he, hc, _⟩ => ⟨(), ?_, ?_, trivial⟩
    · rw [he, e, Bc.vl_vf, Bc.vf_no _ _ _ e]
    · unfold Bc.ge
      rw [e]; exact hc
theorem put_u (v : Int) (S : Nat → Prop) (hA : (CcP p m kv h s).A S w) (hb : ∀ b, S b → b < w.heap.size) (hn : kv.length ≤ 100000) (hh0 : 0 ≤ h) (hh1 : h ≤ 1000000) (hs0 : 0 ≤ s) (hs1 : s ≤ 1000000) (hnd : (Bc.Ky kv).Nodup) :
    Calls Try.prog 17 [.pointer (some ⟨p, 0, none⟩), .string k, .int .i64 v].toArray w fun e w' => ∃ _g : Unit, e = .returned (.tuple #[]) ∧ St S w w' [CcP p m (Bc.pu m kv k v) h s] ∧ True := by
  by_cases hx : Bc.ix (kv.map (·.1)) k < kv.length
  · refine (put_y p m h s v k kv w S hA hb hn hh0 hh1 hs0 hs1 hx).mono fun en w' ⟨_, he, hc, _⟩ => ⟨(), he, ?_, trivial⟩
    rw [Bc.er_ix kv k hnd hx] at hc
    unfold Bc.pu
    rw [List.drop_one, ← List.eraseIdx_zero]; exact hc
  · have e : Bc.hs kv k = false := by cases e : Bc.hs kv k with
      | false => rfl
      | true => exact absurd ((Bc.hs_iff kv k).1 e) hx
    refine (put_n p m h s v k kv w S hA hb hn hh0 hh1 hs0 hs1 hx).mono fun en w' ⟨_, he, hc, _⟩ => ⟨(), he, ?_, trivial⟩
    unfold Bc.pu
    rw [List.drop_one, ← List.eraseIdx_zero, Bc.wo_none kv k e]; exact hc
theorem drop_u (S : Nat → Prop) (hA : (CcP p m kv h s).A S w) (hb : ∀ b, S b → b < w.heap.size) (hn : kv.length ≤ 100000) (hh0 : 0 ≤ h) (hh1 : h ≤ 1000000) (hs0 : 0 ≤ s) (hs1 : s ≤ 1000000) (hnd : (Bc.Ky kv).Nodup) :
    Calls Try.prog 18 [.pointer (some ⟨p, 0, none⟩), .string k].toArray w fun e w' => ∃ _g : Unit, e = .returned (.bool (Bc.hs kv k)) ∧ St S w w' [CcP p m (Bc.wo kv k) h s] ∧ True := by
  by_cases hx : Bc.ix (kv.map (·.1)) k < kv.length
  · have e := (Bc.hs_iff kv k).2 hx
    refine (drop_y p m h s k kv w S hA hb hn hh0 hh1 hs0 hs1 hx).mono fun en w' ⟨_, he, hc, _⟩ => ⟨(), by rw [he, e], ?_, trivial⟩
    rw [Bc.er_ix kv k hnd hx] at hc; exact hc
  · have e : Bc.hs kv k = false := by cases e : Bc.hs kv k with
      | false => rfl
      | true => exact absurd ((Bc.hs_iff kv k).1 e) hx
    refine (drop_n p m h s k kv w S hA hb hn hh0 hh1 hs0 hs1 hx).mono fun en w' ⟨_, he, hc, _⟩ => ⟨(), by rw [he, e], ?_, trivial⟩
    rw [Bc.wo_none kv k e]; exact hc
end
theorem rget_u (m h s : Int) (A B : Option Addr) (c1 c2 : Nat) (kv : Bc.KV) (k : ByteArray) (w : World) (hK : SlR w A (kv.map fun q => .string q.1)) (hV : SlR w B (kv.map fun q => .int .i64 q.2)) (hn : kv.length ≤ 100000) (hh0 : 0 ≤ h) (hh1 : h ≤ 1000000) (hs0 : 0 ≤ s) (hs1 : s ≤ 1000000) :
    Calls Try.prog 20 [.agg #[.int .i64 m, .slice A kv.length c1, .slice B kv.length c2, .int .i64 h, .int .i64 s], .string k].toArray w fun e w' => ∃ g : (Option Addr × Nat) × (Option Addr × Nat), e = .returned (.tuple #[.agg #[.int .i64 m, .slice g.1.1 (Bc.ge kv k).length g.1.2, .slice g.2.1 (Bc.ge kv k).length g.2.2, .int .i64 (if Bc.hs kv k = true then h + 1 else h), .int .i64 (if Bc.hs kv k = true then s else s + 1)], .int .i64 (Bc.vl kv k), .bool (Bc.hs kv k)]) ∧ St noB w w' [roP g.1.1 ((Bc.ge kv k).map fun q => .string q.1), roP g.2.1 ((Bc.ge kv k).map fun q => .int .i64 q.2)] ∧ True := by
  cases e : Bc.hs kv k with
  | true =>
    refine (rget_y m h s A B c1 c2 kv k w hK hV hn hh0 hh1 hs0 hs1 e).mono fun en w' ⟨g, he, hc, _⟩ => ⟨g, ?_, ?_, trivial⟩
    · unfold Bc.ge
      rw [if_pos e, if_pos rfl, if_pos rfl]; exact he
    · unfold Bc.ge
      rw [if_pos e]; exact hc
  | false =>
    refine (rget_n m h s A B c1 c2 kv k w hK hV hn hh0 hh1 hs0 hs1 e).mono fun en w' ⟨g, he, hc, _⟩ => ⟨g, ?_, ?_, trivial⟩
    · rw [Bc.wo_none kv k e] at he
      unfold Bc.ge
      rw [if_neg (by rw [e]; simp), if_neg (by simp), if_neg (by simp), Bc.vl_vf, Bc.vf_no _ _ _ e]; exact he
    · rw [Bc.wo_none kv k e] at hc
      unfold Bc.ge
      rw [if_neg (by rw [e]; simp)]; exact hc

set_option maxRecDepth 100000 in
set_option maxHeartbeats 1000000 in
theorem start_c (m : Int) (w : World) : Calls Try.prog 8 [.int .i64 m].toArray w fun e w' => ∃ p : Nat, e = .returned (.tuple #[.pointer (some ⟨p, 0, none⟩), .agg #[.int .i64 (max (min m 1000) 0), .slice none 0 0, .slice none 0 0, .int .i64 0, .int .i64 0]]) ∧ St noB w w' [CcP p (max (min m 1000) 0) [] 0 0] ∧ True := by
  refine GC.calls Try.func8 rfl rfl (St.begin _) ?_
  refine GC.seq ?_
  refine GC.reg ?_
  refine GL.val (rv_assign rfl) rfl ?_
  refine GL.step (ot_alloc (zs := [.int .i64 0, .slice none 0 0, .slice none 0 0, .int .i64 0, .int .i64 0]) zb_27 rfl rfl fun b3 => ?_)
  refine GL.nil ?_
  refine GX.then ?_
  refine GC.seq ?_
  refine GC.seq ?_
  refine GC.reg ?_
  refine GL.val (rv_move rfl) rfl ?_
  refine GL.val (rv_gtr rfl rfl) rfl ?_
  refine GL.nil ?_
  refine GX.then ?_
  first | refine GC.condP rfl (fun c1 => ?_) (fun c1 => ?_) | refine GC.cond rfl (fun c1 => ?_) (fun c1 => ?_)
  · have em : min m 1000 = 1000 := by omega
    refine GC.reg ?_
    refine GL.val (rv_assign rfl) rfl ?_
    refine GL.nil ?_
    refine GX.then ?_
    refine GC.seq ?_
    refine GC.reg ?_
    refine GL.val (rv_move rfl) rfl ?_
    refine GL.step (ot_call hb_16 rfl (callOk fun w hh => new_c _ w) rfl fun p _ => ?_)
    refine GL.val (rv_move rfl) rfl ?_
    refine GL.step (ot_call hb_19 rfl (callOk fun w hh => rnew_c _ w) rfl fun _ _ => ?_)
    refine GL.val (rv_assign rfl) rfl ?_
    first | refine GL.step (ot_store (k := 0) rfl rfl rfl rfl sz_27 rfl rfl (by first | ((simp only [repl, List.set_cons_zero, List.set_cons_succ]) <;> rfl) | rfl) ?_) | refine GL.step (ot_store (k := 1) rfl rfl rfl rfl sz_27 rfl rfl (by first | ((simp only [repl, List.set_cons_zero, List.set_cons_succ]) <;> rfl) | rfl) ?_)
    refine GL.nil ?_
    refine GX.then ?_
    refine GC.ret ?_
    refine GX.ret2 rfl (RR.tmp rfl) (RR.cell ag_27 rfl (by first | exact Hd.cellsAll (k := 0) rfl | exact Hd.cellsAll (k := 1) rfl | exact Hd.cells0 (by assumption) (by first | exact fun h => h | assumption)) (by exact sz_27)) ?_
    exact fun w1 h1 => ⟨p, by rw [em], by rw [em]; exact h1.take 1, trivial⟩
  · have em : min m 1000 = m := by omega
    refine GC.skip ?_
    refine GX.then ?_
    refine GC.seq ?_
    refine GC.reg ?_
    refine GL.val (rv_move rfl) rfl ?_
    refine GL.step (ot_call hb_16 rfl (callOk fun w hh => new_c _ w) rfl fun p _ => ?_)
    refine GL.val (rv_move rfl) rfl ?_
    refine GL.step (ot_call hb_19 rfl (callOk fun w hh => rnew_c _ w) rfl fun _ _ => ?_)
    refine GL.val (rv_assign rfl) rfl ?_
    first | refine GL.step (ot_store (k := 0) rfl rfl rfl rfl sz_27 rfl rfl (by first | ((simp only [repl, List.set_cons_zero, List.set_cons_succ]) <;> rfl) | rfl) ?_) | refine GL.step (ot_store (k := 1) rfl rfl rfl rfl sz_27 rfl rfl (by first | ((simp only [repl, List.set_cons_zero, List.set_cons_succ]) <;> rfl) | rfl) ?_)
    refine GL.nil ?_
    refine GX.then ?_
    refine GC.ret ?_
    refine GX.ret2 rfl (RR.tmp rfl) (RR.cell ag_27 rfl (by first | exact Hd.cellsAll (k := 0) rfl | exact Hd.cellsAll (k := 1) rfl | exact Hd.cells0 (by assumption) (by first | exact fun h => h | assumption)) (by exact sz_27)) ?_
    exact fun w1 h1 => ⟨p, by rw [em], by rw [em]; exact h1.take 1, trivial⟩
set_option maxRecDepth 100000 in
set_option maxHeartbeats 1000000 in
theorem few_c (A : Option Addr) (n c : Nat) (w : World) : Calls Try.prog 9 [.slice A n c].toArray w fun e w' => ∃ _g : Unit, e = .returned (.bool (decide (n ≤ 200))) ∧ St noB w w' [] ∧ True := by
  refine GC.calls Try.func9 rfl rfl (St.begin _) ?_
  refine GC.seq ?_
  refine GC.reg ?_
  refine GL.val (rv_assign rfl) rfl ?_
  refine GL.nil ?_
  refine GX.then ?_
  refine GC.seq ?_
  refine GC.reg ?_
  refine GL.val (rv_move rfl) rfl ?_
  refine GL.val (rv_lenSl Try.underlying22 rfl) rfl ?_
  refine GL.val (rv_leq rfl rfl) rfl ?_
  refine GL.val (rv_assign rfl) rfl ?_
  refine GL.nil ?_
  refine GX.then ?_
  refine GC.ret ?_
  refine GX.ret1 rfl (RR.tmp rfl) ?_
  exact fun w1 h1 => ⟨(), by simp; omega, h1, trivial⟩
set_option maxRecDepth 100000 in
set_option maxHeartbeats 1000000 in
theorem same_c (A B : Option Addr) (c d n n' : Nat) (a b : List ByteArray) (w : World) (hR : SlR w A (a.map .string)) (hR' : SlR w B (b.map .string)) (hl : a.length = n) (hl' : b.length = n') (hn : n ≤ 1000000) :
    Calls Try.prog 14 [.slice A n c, .slice B n' d].toArray w fun e w' => ∃ _g : Unit, e = .returned (.bool (decide (a = b))) ∧ St noB w w' [] ∧ True := by
  refine GC.calls Try.func14 rfl rfl (St.begin _) ?_
  subst hl
  subst hl'
  have HA : a.length = 0 ∨ ∃ b o, A = some ⟨b, o, none⟩ ∧ Cells w b o (a.map .string) := hR.imp (fun h => by simpa using congrArg List.length h) id
  have HB : b.length = 0 ∨ ∃ b' o, B = some ⟨b', o, none⟩ ∧ Cells w b' o (b.map .string) := hR'.imp (fun h => by simpa using congrArg List.length h) id
  refine GC.seq ?_
  refine GC.reg ?_
  refine GL.val (rv_assign rfl) rfl ?_
  refine GL.nil ?_
  refine GX.then ?_
  refine GC.seq ?_
  refine GC.seq ?_
  refine GC.reg ?_
  refine GL.val (rv_move rfl) rfl ?_
  refine GL.val (rv_lenSl Try.underlying24 rfl) rfl ?_
  refine GL.val (rv_move rfl) rfl ?_
  refine GL.val (rv_lenSl Try.underlying24 rfl) rfl ?_
  refine GL.val (rv_neI rfl rfl) rfl ?_
  refine GL.nil ?_
  refine GX.then ?_
  first | refine GC.condP rfl (fun c1 => ?_) (fun c1 => ?_) | refine GC.cond rfl (fun c1 => ?_) (fun c1 => ?_)
  · refine GC.seq ?_
    refine GC.reg ?_
    refine GL.val (rv_assign rfl) rfl ?_
    refine GL.nil ?_
    refine GX.then ?_
    refine GC.ret ?_
    refine GX.then_ret ?_
    refine GX.ret1 rfl (RR.tmp rfl) ?_
    exact fun w h => ⟨(), by rw [decide_eq_false (fun e => by subst e; omega)], h, trivial⟩
  · have hlen : a.length = b.length := by omega
    refine GC.skip ?_
    refine GX.then ?_
    refine GC.seq ?_
    refine GC.seq ?_
    refine GC.reg ?_
    refine GL.val (rv_assign rfl) rfl ?_
    refine GL.nil ?_
    refine GX.then ?_
    refine GC.block ?_
    refine GC.loop (γ := Nat) (fun j => [(0, .slice A a.length c), (1, .slice B b.length d), (5, .int .i64 (j : Int))]) (fun _ => []) (fun j => j ≤ a.length ∧ ∀ i (h : i < j), a[i]? = b[i]?) (fun j => a.length - j) (0) ⟨Nat.zero_le _, fun i h => absurd h (Nat.not_lt_zero _)⟩ (by repeat (first | exact Sub.nil | refine Sub.cons rfl ?_)) (fun w h => h) (fun j ⟨hj, hall⟩ => ?_)
    refine GC.seq ?_
    refine GC.seq ?_
    refine GC.reg ?_
    refine GL.val (rv_move rfl) rfl ?_
    refine GL.val (rv_move rfl) rfl ?_
    refine GL.val (rv_lenSl Try.underlying24 rfl) rfl ?_
    refine GL.val (rv_lss rfl rfl) rfl ?_
    refine GL.nil ?_
    refine GX.then ?_
    first | refine GC.condP rfl (fun c2 => ?_) (fun c2 => ?_) | refine GC.cond rfl (fun c2 => ?_) (fun c2 => ?_)
    · have hlt : j < a.length := by omega
      obtain ⟨b1, o1, rfl, hC⟩ := HA.resolve_left (by omega)
      obtain ⟨b2, o2, rfl, hC'⟩ := HB.resolve_left (by omega)
      refine GC.skip ?_
      refine GX.then ?_
      refine GC.seq ?_
      refine GC.block ?_
      refine GC.seq ?_
      refine GC.draw 9 [] mo_ ?_
      refine GD.pure (i := 0) rfl (fun _ _ => rv_move rfl) (by kernel_rfl) (by repeat (first | exact noPanicPut_body | exact noPanicPut_cut | exact noPanicPut_cutE | refine noPanicPut_then ?_ | refine noPanicPut_blk ?_)) ?_
      refine GD.pure (i := 1) rfl (fun _ _ => rv_move rfl) (by kernel_rfl) (by repeat (first | exact noPanicPut_body | exact noPanicPut_cut | exact noPanicPut_cutE | refine noPanicPut_then ?_ | refine noPanicPut_blk ?_)) ?_
      refine GD.pure (i := 2) rfl (fun _ _ => rv_elem es_24 rfl rfl (by omega) (by omega)) (by kernel_rfl) (by repeat (first | exact noPanicPut_body | exact noPanicPut_cut | exact noPanicPut_cutE | refine noPanicPut_then ?_ | refine noPanicPut_blk ?_)) ?_
      refine GD.pure (i := 4) rfl (fun _ _ => rv_move rfl) (by kernel_rfl) (by repeat (first | exact noPanicPut_body | exact noPanicPut_cut | exact noPanicPut_cutE | refine noPanicPut_then ?_ | refine noPanicPut_blk ?_)) ?_
      refine GD.pure (i := 5) rfl (fun _ _ => rv_move rfl) (by kernel_rfl) (by repeat (first | exact noPanicPut_body | exact noPanicPut_cut | exact noPanicPut_cutE | refine noPanicPut_then ?_ | refine noPanicPut_blk ?_)) ?_
      refine GD.pure (i := 6) rfl (fun _ _ => rv_elem es_24 rfl rfl (by omega) (by omega)) (by kernel_rfl) (by repeat (first | exact noPanicPut_body | exact noPanicPut_cut | exact noPanicPut_cutE | refine noPanicPut_then ?_ | refine noPanicPut_blk ?_)) ?_
      refine GD.read (i := 3) rfl (rv_load ag_9 rfl (Hd.at0 (u := .string a[j]) hC (fun h => h) (by simp [hlt]))) (by kernel_rfl) (by repeat (first | exact noPanicPut_body | exact noPanicPut_cut | exact noPanicPut_cutE | refine noPanicPut_then ?_ | refine noPanicPut_blk ?_)) ?_
      refine GD.read (i := 7) rfl (rv_load ag_9 rfl (Hd.at0 (u := .string b[j]) hC' (fun h => h) (by simp [← hlen, hlt]))) (by kernel_rfl) (by repeat (first | exact noPanicPut_body | exact noPanicPut_cut | exact noPanicPut_cutE | refine noPanicPut_then ?_ | refine noPanicPut_blk ?_)) ?_
      refine GD.pure (i := 8) rfl (fun _ _ => rv_neS rfl rfl) (by kernel_rfl) (by repeat (first | exact noPanicPut_body | exact noPanicPut_cut | exact noPanicPut_cutE | refine noPanicPut_then ?_ | refine noPanicPut_blk ?_)) ?_
      refine GD.done (by kernel_rfl) ?_
      refine GX.then ?_
      first | refine GC.condP rfl (fun c3 => ?_) (fun c3 => ?_) | refine GC.cond rfl (fun c3 => ?_) (fun c3 => ?_)
      · refine GC.seq ?_
        refine GC.reg ?_
        refine GL.val (rv_assign rfl) rfl ?_
        refine GL.nil ?_
        refine GX.then ?_
        refine GC.ret ?_
        refine GX.blk_ret ?_
        refine GX.then_ret ?_
        refine GX.then_ret ?_
        refine GX.blk_ret ?_
        refine GX.then_ret ?_
        refine GX.ret1 rfl (RR.tmp rfl) ?_
        exact fun w h => ⟨(), by rw [decide_eq_false (fun e => by subst e; simp at c3)], h, trivial⟩
      · have c3 : a[j] = b[j] := by simpa using c3
        refine GC.skip ?_
        refine GX.blk ?_
        refine GX.then ?_
        refine GC.reg ?_
        refine GL.val (rv_move rfl) rfl ?_
        refine GL.val (rv_add rfl rfl (by omega) (by omega)) rfl ?_
        refine GL.val (rv_assign rfl) rfl ?_
        refine GL.nil ?_
        exact GX.round (j + 1) (by omega) ⟨by omega, fun i h => by
              by_cases e : i = j
              · subst e; rw [List.getElem?_eq_getElem hlt, List.getElem?_eq_getElem (by omega)]; exact congrArg some c3
              · exact hall i (by omega)⟩ (by repeat (first | exact Sub.nil | refine Sub.cons rfl ?_)) (fun w h => h)
    · refine GC.exit ?_
      refine GX.then_exit ?_
      refine GX.then_exit ?_
      refine GX.blk_eq ?_
      refine GX.then ?_
      refine GC.seq ?_
      refine GC.reg ?_
      refine GL.val (rv_assign rfl) rfl ?_
      refine GL.nil ?_
      refine GX.then ?_
      refine GC.ret ?_
      refine GX.ret1 rfl (RR.tmp rfl) ?_
      have hab : a = b := List.ext_getElem? fun i => by
        by_cases h : i < j
        · exact hall i h
        · rw [List.getElem?_eq_none (by omega), List.getElem?_eq_none (by omega)]
      exact fun w h => ⟨(), by rw [decide_eq_true hab], h, trivial⟩
end Go.Proofs.Ytjbnblkefhpibaa
