import Derived.Test.YtiiofagddljgdaaG
set_option linter.unusedVariables false
set_option linter.unusedSimpArgs false
namespace Go.Proofs.Ytiiofagddljgdaa
open Go Go.RowKit Go.Bz
theorem ei_49 : elemInfo Try.prog 49 = some (22, 1, 24) := by kernel_rfl
theorem hb_30 : hasBody Try.prog 30 = true := by kernel_rfl
theorem al {α : Type} {p : α → Prop} {a : α} {l : List α} (h : p a) (h2 : ∀ q ∈ l, p q) : ∀ q ∈ a :: l, p q := List.forall_mem_cons.2 ⟨h, h2⟩
theorem an {α : Type} {p : α → Prop} : ∀ q ∈ ([] : List α), p q := fun _ h => by cases h
theorem slr_cl {K : Nat → Prop} {w0 w : World} {Fs : List Pc} {k b E o : Nat} {cs us : List Value} (h : Hd K w0 w Fs) (e : Fs[k]? = some (Pc.cl b cs E)) (hu : (cs.drop o).take us.length = us) : SlR w (some ⟨b, o, none⟩) us := .inr ⟨b, o, rfl, Hd.cells e hu w h⟩
theorem begin_b (s : UInt8) (A : Option Addr) (n c : Nat) (ps : List Sp) (bs : Sh.B) (hbs : s :: cat ps = bs) (w : World) (hR : SlR w A (sls ps)) (hP : ∀ q ∈ ps, SlR w q.2.1 (byts q.1)) (hn : ps.length = n) (hnb : n ≤ 1099511627776) (hbig : bs.length ≤ 1099511627776) :
    Calls Try.prog 27 [v8 s, .slice A n c].toArray w fun e w' => ∃ g : Option Addr × Nat, e = .returned (.slice g.1 (bs).length g.2) ∧ St noB w w' [roP g.1 (byts (bs))] ∧ (bs).length ≤ g.2 := by
  subst hbs
  refine (begin_c s A n c ps w hR hP hn hnb (by simp at hbig; omega)).mono fun e w' ⟨⟨b, o, c'⟩, he, hs, hc⟩ => ⟨(some ⟨b, o, none⟩, c'), ?_, hs, ?_⟩
  · rw [he, List.length_cons, Nat.add_comm]
  · rw [List.length_cons]; dsimp only at hc ⊢; omega
theorem number_b (n : UInt64) (w : World) : Calls Try.prog 28 [v64 n].toArray w fun e w' => ∃ g : Option Addr × Nat, e = .returned (.slice g.1 (num n).length g.2) ∧ St noB w w' [roP g.1 (byts (num n))] ∧ (num n).length ≤ g.2 :=
  (number_c n w).mono fun e w' ⟨b, he, hs, _⟩ => ⟨(some ⟨b, 0, none⟩, 8), by rw [he, num_len], hs, by rw [num_len]; exact Nat.le_refl _⟩
theorem rnumber_b (n : UInt64) (w : World) : Calls Try.prog 24 [v64 n].toArray w fun e w' => ∃ g : Option Addr × Nat, e = .returned (.slice g.1 (num n).length g.2) ∧ St noB w w' [roP g.1 (byts (num n))] ∧ (num n).length ≤ g.2 :=
  (rnumber_c n w).mono fun e w' ⟨b, he, hs, _⟩ => ⟨(some ⟨b, 0, none⟩, 8), by rw [he, num_len], hs, by rw [num_len]; exact Nat.le_refl _⟩
set_option maxRecDepth 100000 in
set_option maxHeartbeats 1000000 in
theorem join_c (A : Option Addr) (n c : Nat) (ps : List Sp) (w : World) (hR : SlR w A (sls ps)) (hP : ∀ q ∈ ps, SlR w q.2.1 (byts q.1)) (hn : ps.length = n) (hnb : n ≤ 1099511627776) (hbig : (cat ps).length ≤ 1099511627776) :
    Calls Try.prog 30 [.slice A n c].toArray w fun e w' => ∃ g : Option Addr × Nat, e = .returned (.slice g.1 (cat ps).length g.2) ∧ St noB w w' [roP g.1 (byts (cat ps))] ∧ (cat ps).length ≤ g.2 := by
  refine GC.calls Try.func30 rfl rfl (St.begin _) ?_
  subst hn
  have HA := sHead hR
  refine GC.seq ?_
  refine GC.reg ?_
  refine GL.val (rv_assign rfl) rfl ?_
  refine GL.nil ?_
  refine GX.then ?_
  refine GC.seq ?_
  refine GC.reg ?_
  refine GL.val (rv_assign rfl) rfl ?_
  refine GL.nil ?_
  refine GX.then ?_
  refine GC.seq ?_
  refine GC.seq ?_
  refine GC.reg ?_
  refine GL.val (rv_assign rfl) rfl ?_
  refine GL.nil ?_
  refine GX.then ?_
  refine GC.block ?_
  refine GC.loopK (γ := Nat × Option Addr × Nat) [0] [] (fun g Lk => (3, .slice g.2.1 (cat (ps.take g.1)).length g.2.2) :: (4, .int .i64 (g.1 : Int)) :: Lk) (fun g Fk => .row g.2.1 g.2.2 5 1 (cat (ps.take g.1)).length (byts (cat (ps.take g.1))) :: Fk) (fun g => g.1 ≤ ps.length) (fun g => ps.length - g.1) (0, none, 0) rfl rfl (Nat.zero_le _) (by repeat (first | exact Sub.nil | refine Sub.cons rfl ?_)) (fun w9 h => by
      have h := h.nilRow 5 1
      exact h) (fun ⟨j, Ao, co⟩ hj => ?_)
  dsimp only at hj ⊢
  refine GC.seq ?_
  refine GC.seq ?_
  refine GC.reg ?_
  refine GL.val (rv_move rfl) rfl ?_
  refine GL.val (rv_move rfl) rfl ?_
  refine GL.val (rv_lenSl Try.underlying49 rfl) rfl ?_
  refine GL.val (rv_lss rfl rfl) rfl ?_
  refine GL.nil ?_
  refine GX.then ?_
  first | refine GC.condP rfl (fun c8 => ?_) (fun c8 => ?_) | refine GC.cond rfl (fun c8 => ?_) (fun c8 => ?_)
  · have hlt : j < ps.length := by omega
    obtain ⟨b, o, rfl, hC⟩ := HA.resolve_left (by omega)
    refine GC.skip ?_
    refine GX.then ?_
    refine GC.seq ?_
    refine GC.block ?_
    refine GC.reg ?_
    refine GL.val (rv_move rfl) rfl ?_
    refine GL.val (rv_move rfl) rfl ?_
    refine GL.val (rv_move rfl) rfl ?_
    refine GL.val (rv_elemJ (q := o + j) j es_49 rfl rfl rfl (by omega) (by omega)) rfl ?_
    refine GL.val (rv_load ag_22 rfl (Hd.cell0 (sAt hC hlt) (fun h => h))) rfl ?_
    refine GL.step (ot_appendR (k := 0) (r := (cat (ps.take (j + 1))).length) (ys := byts (cat (ps.take (j + 1)))) (news := byts ps[j].1) ei_22 rfl rfl rfl (fun w h => h.rd0n (hP _ (List.getElem_mem hlt))) (by rw [byts_len, Nat.mul_one]) (byts_one _) (by have := cat_le ps (j + 1); rw [cat_step ps j hlt, List.length_append] at this; omega) (by decide) (by decide) rfl (by rw [cat_step ps j hlt, List.length_append]) (by rw [cat_step ps j hlt, Sh.byts_app]) fun A16 c16 => ?_)
    refine GL.val (rv_assign rfl) rfl ?_
    refine GL.nil ?_
    refine GX.blk ?_
    refine GX.then ?_
    refine GC.reg ?_
    refine GL.val (rv_move rfl) rfl ?_
    refine GL.val (rv_add rfl rfl (by omega) (by omega)) rfl ?_
    refine GL.val (rv_assign rfl) rfl ?_
    refine GL.nil ?_
    exact GX.round (j + 1, A16, c16) (by dsimp only; omega) (by dsimp only; omega) (by repeat (first | exact Sub.nil | refine Sub.cons rfl ?_)) (fun w9 h => by
        exact h)
  · obtain rfl : j = ps.length := by omega
    rw [List.take_of_length_le (Nat.le_refl _)]
    refine GC.rowForm (k := 0) rfl fun _ hco _ => ?_
    refine GC.exit ?_
    refine GX.then_exit ?_
    refine GX.then_exit ?_
    refine GX.blk_eq ?_
    refine GX.then ?_
    refine GC.seq ?_
    refine GC.reg ?_
    refine GL.val (rv_move rfl) rfl ?_
    refine GL.val (rv_assign rfl) rfl ?_
    refine GL.nil ?_
    refine GX.then ?_
    refine GC.ret ?_
    refine GX.ret1 rfl (RR.tmp rfl) ?_
    exact fun w9 h => ⟨(Ao, co), rfl, by
        have h := h.rowRo (k := 0) rfl
        exact h, hco⟩
theorem join_b (A : Option Addr) (n c : Nat) (ps : List Sp) (bs : Sh.B) (hbs : cat ps = bs) (w : World) (hR : SlR w A (sls ps)) (hP : ∀ q ∈ ps, SlR w q.2.1 (byts q.1)) (hn : ps.length = n) (hnb : n ≤ 1099511627776) (hbig : bs.length ≤ 1099511627776) :
    Calls Try.prog 30 [.slice A n c].toArray w fun e w' => ∃ g : Option Addr × Nat, e = .returned (.slice g.1 (bs).length g.2) ∧ St noB w w' [roP g.1 (byts (bs))] ∧ (bs).length ≤ g.2 := by
  subst hbs; exact join_c A n c ps w hR hP hn hnb hbig
set_option maxRecDepth 100000 in
set_option maxHeartbeats 1000000 in
theorem sign_c (s : UInt8) (A : Option Addr) (n c : Nat) (ps : List Sp) (bs : Sh.B) (hbs : s :: cat ps = bs) (w : World) (hR : SlR w A (sls ps)) (hP : ∀ q ∈ ps, SlR w q.2.1 (byts q.1)) (hn : ps.length = n) (hnb : n ≤ 1099511627776) (hbig : bs.length ≤ 1099511627776) :
    Calls Try.prog 23 [v8 s, .slice A n c].toArray w fun e w' => ∃ g : Option Addr × Nat, e = .returned (.slice g.1 (bs).length g.2) ∧ St noB w w' [roP g.1 (byts (bs))] ∧ (bs).length ≤ g.2 := by
  refine GC.calls Try.func23 rfl rfl (St.begin _) ?_
  have hcl : (cat ps).length ≤ 1099511627776 := by rw [← hbs, List.length_cons] at hbig; omega
  refine GC.seq ?_
  refine GC.reg ?_
  refine GL.val (rv_assign rfl) rfl ?_
  refine GL.nil ?_
  refine GX.then ?_
  refine GC.seq ?_
  refine GC.reg ?_
  refine GL.val (rv_move rfl) rfl ?_
  refine GL.step (ot_buildSlice ei_22 rfl rfl rfl rfl rfl rfl fun b6 => ?_)
  refine GL.val (rv_move rfl) rfl ?_
  refine GL.step (ot_call hb_30 rfl (callOk fun w hh => join_c A n c ps w (hh.rd0n hR) (fun q hq => hh.rd0n (hP q hq)) hn hnb hcl) rfl fun g8 _ => ?_)
  obtain ⟨A8, c8⟩ := g8
  refine GL.step (ot_buildSlice ei_49 rfl rfl rfl rfl rfl rfl fun b9 => ?_)
  refine GL.step (ot_call hb_30 rfl (callOk fun w hh => join_b (some ⟨b9, 0, none⟩) 2 2 [([s], (some ⟨b6, 0, none⟩, 1)), (cat ps, (A8, c8))] bs (by rw [← hbs]; simp [cat]) w (slr_cl hh (k := 0) rfl rfl) (al (slr_cl hh (k := 2) rfl rfl) (al (hh.ro (k := 1) rfl) an)) rfl (by decide) hbig) rfl fun g10 h10 => ?_)
  refine GL.val (rv_assign rfl) rfl ?_
  refine GL.nil ?_
  refine GX.then ?_
  refine GC.ret ?_
  refine GX.ret1 rfl (RR.tmp rfl) ?_
  exact fun w9 h => ⟨g10, rfl, by
      have h := h.sel [0] rfl rfl
      exact h, h10⟩
end Go.Proofs.Ytiiofagddljgdaa
