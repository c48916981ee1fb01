import Derived.Test.YtkifeeiafachpaaG
import Derived.DeepKeys
import Derived.MapKept
set_option linter.unusedVariables false
set_option linter.unusedSimpArgs false
namespace Go.Proofs.Ytkifeeiafachpaa
section
open Go Go.RowKit Go.Bz
theorem ei_105 : elemInfo Try.prog 105 = some (27, 1, 24) := by kernel_rfl
theorem hb_80 : hasBody Try.prog 80 = true := by kernel_rfl
theorem al {α : Type} {p : α → Prop} {a : α} {l : List α} (h : p a) (h2 : ∀ q ∈ l, p q) : ∀ q ∈ a :: l, p q := List.forall_mem_cons.2 ⟨h, h2⟩
theorem an {α : Type} {p : α → Prop} : ∀ q ∈ ([] : List α), p q := fun _ h => by cases h
theorem slr_cl {K : Nat → Prop} {w0 w : World} {Fs : List Pc} {k b E o : Nat} {cs us : List Value} (h : Hd K w0 w Fs) (e : Fs[k]? = some (Pc.cl b cs E)) (hu : (cs.drop o).take us.length = us) : SlR w (some ⟨b, o, none⟩) us := .inr ⟨b, o, rfl, Hd.cells e hu w h⟩
theorem begin_b (s : UInt8) (A : Option Addr) (n c : Nat) (ps : List Sp) (bs : Sh.B) (hbs : s :: cat ps = bs) (w : World) (hR : SlR w A (sls ps)) (hP : ∀ q ∈ ps, SlR w q.2.1 (byts q.1)) (hn : ps.length = n) (hnb : n ≤ 1099511627776) (hbig : bs.length ≤ 1099511627776) :
    Calls Try.prog 68 [v8 s, .slice A n c].toArray w fun e w' => ∃ g : Option Addr × Nat, e = .returned (.slice g.1 (bs).length g.2) ∧ St noB w w' [roP g.1 (byts (bs))] ∧ (bs).length ≤ g.2 := by
  subst hbs
  refine (begin_c s A n c ps w hR hP hn hnb (by simp at hbig; omega)).mono fun e w' ⟨⟨b, o, c'⟩, he, hs, hc⟩ => ⟨(some ⟨b, o, none⟩, c'), ?_, hs, ?_⟩
  · rw [he, List.length_cons, Nat.add_comm]
  · rw [List.length_cons]; dsimp only at hc ⊢; omega
theorem number_b (n : UInt64) (w : World) : Calls Try.prog 69 [v64 n].toArray w fun e w' => ∃ g : Option Addr × Nat, e = .returned (.slice g.1 (num n).length g.2) ∧ St noB w w' [roP g.1 (byts (num n))] ∧ (num n).length ≤ g.2 :=
  (number_c n w).mono fun e w' ⟨b, he, hs, _⟩ => ⟨(some ⟨b, 0, none⟩, 8), by rw [he, num_len], hs, by rw [num_len]; exact Nat.le_refl _⟩
theorem rnumber_b (n : UInt64) (w : World) : Calls Try.prog 73 [v64 n].toArray w fun e w' => ∃ g : Option Addr × Nat, e = .returned (.slice g.1 (num n).length g.2) ∧ St noB w w' [roP g.1 (byts (num n))] ∧ (num n).length ≤ g.2 :=
  (rnumber_c n w).mono fun e w' ⟨b, he, hs, _⟩ => ⟨(some ⟨b, 0, none⟩, 8), by rw [he, num_len], hs, by rw [num_len]; exact Nat.le_refl _⟩
set_option maxRecDepth 100000 in
set_option maxHeartbeats 1000000 in
theorem join_c (A : Option Addr) (n c : Nat) (ps : List Sp) (w : World) (hR : SlR w A (sls ps)) (hP : ∀ q ∈ ps, SlR w q.2.1 (byts q.1)) (hn : ps.length = n) (hnb : n ≤ 1099511627776) (hbig : (cat ps).length ≤ 1099511627776) :
    Calls Try.prog 80 [.slice A n c].toArray w fun e w' => ∃ g : Option Addr × Nat, e = .returned (.slice g.1 (cat ps).length g.2) ∧ St noB w w' [roP g.1 (byts (cat ps))] ∧ (cat ps).length ≤ g.2 := by
  refine GC.calls Try.func80 rfl rfl (St.begin _) ?_
  subst hn
  have HA := sHead hR
  refine GC.seq ?_
  refine GC.reg ?_
  refine GL.val (rv_assign rfl) rfl ?_
  refine GL.nil ?_
  refine GX.then ?_
  refine GC.seq ?_
  refine GC.reg ?_
  refine GL.val (rv_assign rfl) rfl ?_
  refine GL.nil ?_
  refine GX.then ?_
  refine GC.seq ?_
  refine GC.seq ?_
  refine GC.reg ?_
  refine GL.val (rv_assign rfl) rfl ?_
  refine GL.nil ?_
  refine GX.then ?_
  refine GC.block ?_
  refine GC.loopK (γ := Nat × Option Addr × Nat) [0] [] (fun g Lk => (3, .slice g.2.1 (cat (ps.take g.1)).length g.2.2) :: (4, .int .i64 (g.1 : Int)) :: Lk) (fun g Fk => .row g.2.1 g.2.2 5 1 (cat (ps.take g.1)).length (byts (cat (ps.take g.1))) :: Fk) (fun g => g.1 ≤ ps.length) (fun g => ps.length - g.1) (0, none, 0) rfl rfl (Nat.zero_le _) (by repeat (first | exact Sub.nil | refine Sub.cons rfl ?_)) (fun w9 h => by
      have h := h.nilRow 5 1
      exact h) (fun ⟨j, Ao, co⟩ hj => ?_)
  dsimp only at hj ⊢
  refine GC.seq ?_
  refine GC.seq ?_
  refine GC.reg ?_
  refine GL.val (rv_move rfl) rfl ?_
  refine GL.val (rv_move rfl) rfl ?_
  refine GL.val (rv_lenSl Try.underlying105 rfl) rfl ?_
  refine GL.val (rv_lss rfl rfl) rfl ?_
  refine GL.nil ?_
  refine GX.then ?_
  refine GC.condP rfl (fun c8 => ?_) (fun c8 => ?_)
  · have hlt : j < ps.length := by omega
    obtain ⟨b, o, rfl, hC⟩ := HA.resolve_left (by omega)
    refine GC.skip ?_
    refine GX.then ?_
    refine GC.seq ?_
    refine GC.block ?_
    refine GC.reg ?_
    refine GL.val (rv_move rfl) rfl ?_
    refine GL.val (rv_move rfl) rfl ?_
    refine GL.val (rv_move rfl) rfl ?_
    refine GL.val (rv_elemJ (q := o + j) j es_105 rfl rfl rfl (by omega) (by omega)) rfl ?_
    refine GL.val (rv_load ag_27 rfl (Hd.cell0 (sAt hC hlt) (fun h => h))) rfl ?_
    refine GL.step (ot_appendR (k := 0) (r := (cat (ps.take (j + 1))).length) (ys := byts (cat (ps.take (j + 1)))) (news := byts ps[j].1) ei_27 rfl rfl rfl (fun w h => h.rd0n (hP _ (List.getElem_mem hlt))) (by rw [byts_len, Nat.mul_one]) (byts_one _) (by have := cat_le ps (j + 1); rw [cat_step ps j hlt, List.length_append] at this; omega) (by decide) (by decide) rfl (by rw [cat_step ps j hlt, List.length_append]) (by rw [cat_step ps j hlt, Sh.byts_app]) fun A16 c16 => ?_)
    refine GL.val (rv_assign rfl) rfl ?_
    refine GL.nil ?_
    refine GX.blk ?_
    refine GX.then ?_
    refine GC.reg ?_
    refine GL.val (rv_move rfl) rfl ?_
    refine GL.val (rv_add rfl rfl (by omega) (by omega)) rfl ?_
    refine GL.val (rv_assign rfl) rfl ?_
    refine GL.nil ?_
    exact GX.round (j + 1, A16, c16) (by dsimp only; omega) (by dsimp only; omega) (by repeat (first | exact Sub.nil | refine Sub.cons rfl ?_)) (fun w9 h => by
        exact h)
  · obtain rfl : j = ps.length := by omega
    rw [List.take_of_length_le (Nat.le_refl _)]
    refine GC.rowForm (k := 0) rfl fun _ hco _ => ?_
    refine GC.exit ?_
    refine GX.then_exit ?_
    refine GX.then_exit ?_
    refine GX.blk_eq ?_
    refine GX.then ?_
    refine GC.seq ?_
    refine GC.reg ?_
    refine GL.val (rv_move rfl) rfl ?_
    refine GL.val (rv_assign rfl) rfl ?_
    refine GL.nil ?_
    refine GX.then ?_
    refine GC.ret ?_
    refine GX.ret1 rfl (RR.tmp rfl) ?_
    exact fun w9 h => ⟨(Ao, co), rfl, by
        have h := h.rowRo (k := 0) rfl
        exact h, hco⟩
theorem join_b (A : Option Addr) (n c : Nat) (ps : List Sp) (bs : Sh.B) (hbs : cat ps = bs) (w : World) (hR : SlR w A (sls ps)) (hP : ∀ q ∈ ps, SlR w q.2.1 (byts q.1)) (hn : ps.length = n) (hnb : n ≤ 1099511627776) (hbig : bs.length ≤ 1099511627776) :
    Calls Try.prog 80 [.slice A n c].toArray w fun e w' => ∃ g : Option Addr × Nat, e = .returned (.slice g.1 (bs).length g.2) ∧ St noB w w' [roP g.1 (byts (bs))] ∧ (bs).length ≤ g.2 := by
  subst hbs; exact join_c A n c ps w hR hP hn hnb hbig
set_option maxRecDepth 100000 in
set_option maxHeartbeats 1000000 in
theorem sign_c (s : UInt8) (A : Option Addr) (n c : Nat) (ps : List Sp) (bs : Sh.B) (hbs : s :: cat ps = bs) (w : World) (hR : SlR w A (sls ps)) (hP : ∀ q ∈ ps, SlR w q.2.1 (byts q.1)) (hn : ps.length = n) (hnb : n ≤ 1099511627776) (hbig : bs.length ≤ 1099511627776) :
    Calls Try.prog 72 [v8 s, .slice A n c].toArray w fun e w' => ∃ g : Option Addr × Nat, e = .returned (.slice g.1 (bs).length g.2) ∧ St noB w w' [roP g.1 (byts (bs))] ∧ (bs).length ≤ g.2 := by
  refine GC.calls Try.func72 rfl rfl (St.begin _) ?_
  have hcl : (cat ps).length ≤ 1099511627776 := by rw [← hbs, List.length_cons] at hbig; omega
  refine GC.seq ?_
  refine GC.reg ?_
  refine GL.val (rv_assign rfl) rfl ?_
  refine GL.nil ?_
  refine GX.then ?_
  refine GC.seq ?_
  refine GC.reg ?_
  refine GL.val (rv_move rfl) rfl ?_
  refine GL.step (ot_buildSlice ei_27 rfl rfl rfl rfl rfl rfl fun b6 => ?_)
  refine GL.val (rv_move rfl) rfl ?_
  refine GL.step (ot_call hb_80 rfl (callOk fun w hh => join_c A n c ps w (hh.rd0n hR) (fun q hq => hh.rd0n (hP q hq)) hn hnb hcl) rfl fun g8 _ => ?_)
  obtain ⟨A8, c8⟩ := g8
  refine GL.step (ot_buildSlice ei_105 rfl rfl rfl rfl rfl rfl fun b9 => ?_)
  refine GL.step (ot_call hb_80 rfl (callOk fun w hh => join_b (some ⟨b9, 0, none⟩) 2 2 [([s], (some ⟨b6, 0, none⟩, 1)), (cat ps, (A8, c8))] bs (by rw [← hbs]; simp [cat]) w (slr_cl hh (k := 0) rfl rfl) (al (slr_cl hh (k := 2) rfl rfl) (al (hh.ro (k := 1) rfl) an)) rfl (by decide) hbig) rfl fun g10 h10 => ?_)
  refine GL.val (rv_assign rfl) rfl ?_
  refine GL.nil ?_
  refine GX.then ?_
  refine GC.ret ?_
  refine GX.ret1 rfl (RR.tmp rfl) ?_
  exact fun w9 h => ⟨g10, rfl, by
      have h := h.sel [0] rfl rfl
      exact h, h10⟩
end
section
open Go Go.RowKit Go.Bz

def rcell (e : UInt64) (p t x : Sh.B) : List Value := v64 e :: (ws8 p ++ (ws8 t ++ ws8 x))
theorem rc_p {e : UInt64} {p t x : Sh.B} (hp : p.length = 32) : ((rcell e p t x).drop 1).take (byts p).length = byts p := by
  unfold rcell; rw [List.drop_succ_cons, List.drop_zero]; exact List.take_left
theorem rc_t {e : UInt64} {p t x : Sh.B} (hp : p.length = 32) : ((rcell e p t x).drop 33).take (byts t).length = byts t := by
  unfold rcell; rw [List.drop_succ_cons, List.drop_append, List.drop_of_length_le (by rw [ws8_len]; omega), ws8_len, hp]; exact List.take_left
theorem rc_x {e : UInt64} {p t x : Sh.B} (hp : p.length = 32) (ht : t.length = 32) : ((rcell e p t x).drop 65).take (byts x).length = byts x := by
  unfold rcell
  rw [List.drop_succ_cons, List.drop_append, List.drop_of_length_le (by rw [ws8_len]; omega), ws8_len, hp, List.nil_append, List.drop_append, List.drop_of_length_le (by rw [ws8_len]; omega), ws8_len, ht, List.nil_append]
  exact List.take_of_length_le (by simp [byts, ws8])
def rbytes (e : UInt64) (p t x : Sh.B) : Sh.B := 82 :: (num e ++ (p ++ (t ++ x)))
def bcell (nm : ByteArray) (key : Sh.B) (kA : Option Addr) (kc : Nat) (ser : UInt64) : List Value := [.string nm, .slice kA key.length kc, v64 ser]
def vbytes (salt : Sh.B) (nm : ByteArray) (key : Sh.B) (ser : UInt64) : Sh.B := 86 :: (salt ++ (num (UInt64.ofNat nm.size) ++ (nm.data.toList ++ (num ser ++ key))))
end
section
open Go Go.RowKit Go.Bz
theorem ag_9 : aggB Try.prog 9 = some false := by kernel_rfl
theorem fo_49_0 : fieldOff Try.prog 49 0 = some 0 := by kernel_rfl
theorem fo_49_1 : fieldOff Try.prog 49 1 = some 1 := by kernel_rfl
theorem fo_49_2 : fieldOff Try.prog 49 2 = some 2 := by kernel_rfl
/-! arrays and roots held against each other -/
def lits8 (l : Sh.B) : List Lit := l.map fun x => .int .u8 (x.toNat : Int)
theorem lits8_inj {a b : Sh.B} : lits8 a = lits8 b ↔ a = b := by
  constructor
  · intro h
    induction a generalizing b with
    | nil => cases b with
      | nil => rfl
      | cons y b => simp [lits8] at h
    | cons x a ih =>
      cases b with
      | nil => simp [lits8] at h
      | cons y b =>
        simp only [lits8, List.map_cons, List.cons.injEq, Lit.int.injEq, true_and] at h
        obtain ⟨h1, h2⟩ := h
        have e : x = y := UInt8.toNat_inj.1 (by omega)
        rw [e, ih h2]
  · intro h; rw [h]
theorem mapM_all {α β : Type} (f : α → Option β) (gg : α → β) : ∀ (l : List α), (∀ x ∈ l, f x = some (gg x)) → l.mapM f = some (l.map gg)
  | [], _ => rfl
  | x :: l, h => by
    rw [List.mapM_cons, h x (by simp), mapM_all f gg l (fun y hy => h y (by simp [hy]))]; rfl
theorem keyLits_int {P : Program} {e d : Nat} {q : IntKind} {z : Int} (he : P.underlying e = some (.int q)) (hw : (Lit.int q z).wf = true) : P.keyLits (d + 1) e [.int q z] = some [.int q z] := by
  unfold Program.keyLits; rw [he]; simp [hw]
theorem wf8 (x : UInt8) : (Lit.int .u8 (x.toNat : Int)).wf = true := by
  have := lt8 x
  have h1 : IntKind.u8.min = 0 := by decide
  have h2 : IntKind.u8.max = 255 := by decide
  simp [Lit.wf, h1, h2]; omega
theorem wf64 (x : UInt64) : (Lit.int .u64 (x.toNat : Int)).wf = true := by
  have := lt64 x
  have h1 : IntKind.u64.min = 0 := by decide
  have h2 : IntKind.u64.max = 18446744073709551615 := by decide
  simp [Lit.wf, h1, h2]; omega
theorem keyLits_arr {P : Program} {t e n d : Nat} (ht : P.underlying t = some (.array n e)) (he : P.underlying e = some (.int .u8)) (hct : P.cellsOf t = n) (hce : P.cellsOf e = 1) (l : Sh.B) (hl : l.length = n) : P.keyLits (d + 2) t (ws8 l) = some (lits8 l) := by
  unfold Program.keyLits
  rw [ht]
  simp only [hct, ws8_len, hl, if_true, hce, Nat.mul_one]
  rw [mapM_all _ (fun i => [Lit.int .u8 ((l.getD i 0).toNat : Int)]) _ (fun i hi => by
    have hlt : i < l.length := by rw [hl]; exact List.mem_range.1 hi
    have e1 : ((ws8 l).drop i).take 1 = [v8 (l.getD i 0)] := by
      have hg : (ws8 l)[i]'(by rw [ws8_len]; exact hlt) = v8 (l.getD i 0) := by
        have := ws8_get hlt
        rw [List.getElem?_eq_getElem (by rw [ws8_len]; exact hlt)] at this
        exact Option.some.inj this
      rw [List.drop_eq_getElem_cons (by rw [ws8_len]; exact hlt), List.take_succ_cons, List.take_zero, hg]
    rw [e1]; exact keyLits_int he (wf8 _))]
  simp only [Option.map_some, Option.some.injEq]
  rw [← List.flatMap_def]
  apply List.ext_getElem?
  intro i
  have e2 : (List.range n).flatMap (fun i => [Lit.int .u8 ((l.getD i 0).toNat : Int)]) = (List.range n).map (fun i => Lit.int .u8 ((l.getD i 0).toNat : Int)) := by
    induction (List.range n) with
    | nil => rfl
    | cons x r ih => rw [List.flatMap_cons, List.map_cons, ih]; rfl
  rw [e2]
  unfold lits8
  rw [List.getElem?_map, List.getElem?_map]
  by_cases h : i < n
  · rw [List.getElem?_range h, List.getElem?_eq_getElem (by omega)]
    simp [List.getD_eq_getElem?_getD, List.getElem?_eq_getElem (show i < l.length by omega)]
  · rw [List.getElem?_eq_none (by simp; omega), List.getElem?_eq_none (by omega)]; rfl
variable {L : List (Nat × Value)} {Fs : List Pc} {ty : TypeId} {x y : Operand}
theorem rv_eqDeep {K : Nat → Prop} {w0 : World} {n m : Nat} {t t' : TypeId} {a b : List Value} {la lb : List Lit} {P : Program} (ex : ev L x = some (.agg a.toArray)) (ey : ev L y = some (.agg b.toArray)) (hg : P.eqGuardType P.depth t = false) (hm : m ≤ 10000) (hk : P.keyTypeAt m t = true)
    (ha : (Value.agg a.toArray).formed P t = true) (hb : (Value.agg b.toArray).formed P t = true) (hla : P.keyLits 10 t a = some la) (hlb : P.keyLits 10 t b = some lb) {p : Prop} [Decidable p] (hp : la = lb ↔ p) : RV P K w0 n L Fs (.binOp .eql t x y t') ty (.bool (decide p)) :=
  rv_bin ex ey fun w => by
    have e1 : (eqGuard .eql t x y (.agg a.toArray) (.agg b.toArray)).run P w = .ok () w := by
      simp [eqGuard, hg, go_sem]
    have hd := run_equalIn_deep (P := P) (10000 - m) m t hk w 10 10 (.agg a.toArray) (.agg b.toArray) la lb ha hb hla hlb
    rw [show 10000 - m + m = 10000 by omega] at hd
    obtain ⟨r, hr, hiff⟩ := hd
    have e2 : binOp .eql t (.agg a.toArray) (.agg b.toArray) = (do pure (.bool (← Op.equal t (.agg a.toArray) (.agg b.toArray)))) := rfl
    have e3 : (Op.equal t (.agg a.toArray) (.agg b.toArray)).run P w = .ok r w := hr
    have e4 : r = decide p := by
      rw [Bool.eq_iff_iff, hiff, hp]; simp
    rw [Sem.run_bind, e1, Result.andThen_ok, e2, Sem.run_bind, e3, e4]; rfl
theorem cells24 : Try.prog.cellsOf 29 = 32 := by kernel_rfl
theorem cells5 : Try.prog.cellsOf 5 = 1 := by kernel_rfl
theorem cells22 : Try.prog.cellsOf 24 = 1 := by kernel_rfl
theorem egt24 : Try.prog.eqGuardType Try.prog.depth 29 = false := by kernel_rfl
theorem ktt24 : Try.prog.keyTypeAt 3 29 = true := by kernel_rfl
theorem formed24 (l : Sh.B) (h : l.length = 32) : (Value.agg (ws8 l).toArray).formed Try.prog 29 = true := by
  simp [Value.formed, Try.underlying29, cells24, ws8_len, h]
theorem rv_eq24 {K : Nat → Prop} {w0 : World} {n : Nat} {t' : TypeId} {a b : Sh.B} (ex : ev L x = some (.agg (ws8 a).toArray)) (ey : ev L y = some (.agg (ws8 b).toArray)) (ha : a.length = 32) (hb : b.length = 32) : RV Try.prog K w0 n L Fs (.binOp .eql 29 x y t') ty (.bool (decide (a = b))) :=
  rv_eqDeep ex ey egt24 (by decide) ktt24 (formed24 a ha) (formed24 b hb) (keyLits_arr (d := 8) Try.underlying29 Try.underlying5 cells24 cells5 a ha) (keyLits_arr (d := 8) Try.underlying29 Try.underlying5 cells24 cells5 b hb) lits8_inj
set_option maxRecDepth 100000 in
set_option maxHeartbeats 1000000 in
theorem sbind_c (nm : ByteArray) (key : Sh.B) (kA : Option Addr) (kc : Nat) (ser : UInt64) (nm2 : ByteArray) (key2 : Sh.B) (kA2 : Option Addr) (kc2 : Nat) (ser2 : UInt64) (w : World) (hk : SlR w kA (byts key)) (hk2 : SlR w kA2 (byts key2)) : Calls Try.prog 37 [.agg (bcell nm key kA kc ser).toArray, .agg (bcell nm2 key2 kA2 kc2 ser2).toArray].toArray w fun e w' => ∃ _g : Unit, e = .returned (.bool (decide (nm = nm2 ∧ ser = ser2 ∧ key = key2))) ∧ St noB w w' [] ∧ True := by
  refine GC.calls Try.func37 rfl rfl (St.begin _) ?_
  refine GC.seq ?_
  refine GC.reg ?_
  refine GL.step (ot_box rfl rfl rfl fun b2 => ?_)
  refine GL.step (ot_box rfl rfl rfl fun b3 => ?_)
  refine GL.val (rv_assign rfl) rfl ?_
  refine GL.nil ?_
  refine GX.then ?_
  refine GC.seq ?_
  refine GC.cutq (γ := Unit) [] [1, 0] (fun g Lk => (4, .bool (decide (nm = nm2 ∧ ser = ser2 ∧ key = key2))) :: Lk) (fun g Fk => Fk) (fun g => True) rfl rfl ?_ (fun _ _ => ?_)
  · rcases (by by_cases h1 : nm = nm2 <;> by_cases h2 : ser = ser2 <;> simp [h1, h2] : ¬ nm = nm2 ∨ (nm = nm2 ∧ ¬ ser = ser2) ∨ (nm = nm2 ∧ ser = ser2)) with h | h | h
    · rw [show decide (nm = nm2 ∧ ser = ser2 ∧ key = key2) = false from decide_eq_false (fun q => h q.1)]
      refine GC.reg ?_
      refine GL.val (rv_field fo_49_0 rfl rfl) rfl ?_
      refine GL.val (rv_load ag_9 rfl (by exact Hd.cell (k := 1) rfl rfl)) rfl ?_
      refine GL.val (rv_field fo_49_0 rfl rfl) rfl ?_
      refine GL.val (rv_load ag_9 rfl (by exact Hd.cell (k := 0) rfl rfl)) rfl ?_
      refine GL.val ((by exact rv_to (v' := .bool false) (rv_eqS rfl rfl) (by simp only [Value.bool.injEq, decide_eq_true_eq, decide_eq_false_iff_not]; first | assumption | omega))) rfl ?_
      refine GL.val (rv_move rfl) rfl ?_
      refine GL.skipG rfl rfl ?_
      refine GL.skipG rfl rfl ?_
      refine GL.skipG rfl rfl ?_
      refine GL.skipG rfl rfl ?_
      refine GL.skipG rfl rfl ?_
      refine GL.val ((by exact rv_andF rfl rfl rfl)) rfl ?_
      refine GL.val (rv_move rfl) rfl ?_
      refine GL.skipG rfl rfl ?_
      refine GL.skipG rfl rfl ?_
      refine GL.skipG rfl rfl ?_
      refine GL.skipG rfl rfl ?_
      refine GL.skipG rfl rfl ?_
      refine GL.skipG rfl rfl ?_
      refine GL.skipG rfl rfl ?_
      refine GL.val ((by exact rv_andF rfl rfl rfl)) rfl ?_
      refine GL.val (rv_assign rfl) rfl ?_
      refine GL.nil ?_
      exact GX.cutq () trivial (by repeat (first | exact Sub.nil | refine Sub.cons rfl ?_)) (fun w9 h => by
          exact h)
    · have h1 := h.1
      have h2 := h.2
      rw [show decide (nm = nm2 ∧ ser = ser2 ∧ key = key2) = false from decide_eq_false (fun q => h.2 q.2.1)]
      refine GC.reg ?_
      refine GL.val (rv_field fo_49_0 rfl rfl) rfl ?_
      refine GL.val (rv_load ag_9 rfl (by exact Hd.cell (k := 1) rfl rfl)) rfl ?_
      refine GL.val (rv_field fo_49_0 rfl rfl) rfl ?_
      refine GL.val (rv_load ag_9 rfl (by exact Hd.cell (k := 0) rfl rfl)) rfl ?_
      refine GL.val ((by exact rv_to (v' := .bool true) (rv_eqS rfl rfl) (by simp only [Value.bool.injEq, decide_eq_true_eq, decide_eq_false_iff_not]; first | assumption | omega))) rfl ?_
      refine GL.val (rv_move rfl) rfl ?_
      refine GL.valT rfl (rv_field fo_49_2 rfl rfl) rfl ?_
      refine GL.valT rfl (rv_load ag_24 rfl (by exact Hd.cell (k := 1) rfl rfl)) rfl ?_
      refine GL.valT rfl (rv_field fo_49_2 rfl rfl) rfl ?_
      refine GL.valT rfl (rv_load ag_24 rfl (by exact Hd.cell (k := 0) rfl rfl)) rfl ?_
      refine GL.valT rfl ((by exact rv_to (v' := .bool false) (rv_eq64 rfl rfl) (by simp only [Value.bool.injEq, decide_eq_true_eq, decide_eq_false_iff_not]; first | assumption | omega))) rfl ?_
      refine GL.val ((by exact rv_andT rfl rfl rfl)) rfl ?_
      refine GL.val (rv_move rfl) rfl ?_
      refine GL.skipG rfl rfl ?_
      refine GL.skipG rfl rfl ?_
      refine GL.skipG rfl rfl ?_
      refine GL.skipG rfl rfl ?_
      refine GL.skipG rfl rfl ?_
      refine GL.skipG rfl rfl ?_
      refine GL.skipG rfl rfl ?_
      refine GL.val ((by exact rv_andF rfl rfl rfl)) rfl ?_
      refine GL.val (rv_assign rfl) rfl ?_
      refine GL.nil ?_
      exact GX.cutq () trivial (by repeat (first | exact Sub.nil | refine Sub.cons rfl ?_)) (fun w9 h => by
          exact h)
    · have h1 := h.1
      have h2 := h.2
      rw [show decide (nm = nm2 ∧ ser = ser2 ∧ key = key2) = decide (key = key2) from decide_eq_decide.2 ⟨fun q => q.2.2, fun q => ⟨h1, h2, q⟩⟩]
      refine GC.reg ?_
      refine GL.val (rv_field fo_49_0 rfl rfl) rfl ?_
      refine GL.val (rv_load ag_9 rfl (by exact Hd.cell (k := 1) rfl rfl)) rfl ?_
      refine GL.val (rv_field fo_49_0 rfl rfl) rfl ?_
      refine GL.val (rv_load ag_9 rfl (by exact Hd.cell (k := 0) rfl rfl)) rfl ?_
      refine GL.val ((by exact rv_to (v' := .bool true) (rv_eqS rfl rfl) (by simp only [Value.bool.injEq, decide_eq_true_eq, decide_eq_false_iff_not]; first | assumption | omega))) rfl ?_
      refine GL.val (rv_move rfl) rfl ?_
      refine GL.valT rfl (rv_field fo_49_2 rfl rfl) rfl ?_
      refine GL.valT rfl (rv_load ag_24 rfl (by exact Hd.cell (k := 1) rfl rfl)) rfl ?_
      refine GL.valT rfl (rv_field fo_49_2 rfl rfl) rfl ?_
      refine GL.valT rfl (rv_load ag_24 rfl (by exact Hd.cell (k := 0) rfl rfl)) rfl ?_
      refine GL.valT rfl ((by exact rv_to (v' := .bool true) (rv_eq64 rfl rfl) (by simp only [Value.bool.injEq, decide_eq_true_eq, decide_eq_false_iff_not]; first | assumption | omega))) rfl ?_
      refine GL.val ((by exact rv_andT rfl rfl rfl)) rfl ?_
      refine GL.val (rv_move rfl) rfl ?_
      refine GL.valT rfl (rv_field fo_49_1 rfl rfl) rfl ?_
      refine GL.valT rfl (rv_load ag_27 rfl (by exact Hd.cell (k := 1) rfl rfl)) rfl ?_
      refine GL.valT rfl (rv_convBS Try.underlying27 Try.underlying5 Try.underlying9 rfl (fun w h => h.rd0n hk) rfl) rfl ?_
      refine GL.valT rfl (rv_field fo_49_1 rfl rfl) rfl ?_
      refine GL.valT rfl (rv_load ag_27 rfl (by exact Hd.cell (k := 0) rfl rfl)) rfl ?_
      refine GL.valT rfl (rv_convBS Try.underlying27 Try.underlying5 Try.underlying9 rfl (fun w h => h.rd0n hk2) rfl) rfl ?_
      refine GL.valT rfl (rv_to (v' := .bool (decide (key = key2))) (rv_eqS rfl rfl) (by rw [show decide (key = key2) = decide ((⟨key.toArray⟩ : ByteArray) = ⟨key2.toArray⟩) from decide_eq_decide.2 ba_inj.symm])) rfl ?_
      refine GL.val ((by exact rv_andT rfl rfl rfl)) rfl ?_
      refine GL.val (rv_assign rfl) rfl ?_
      refine GL.nil ?_
      exact GX.cutq () trivial (by repeat (first | exact Sub.nil | refine Sub.cons rfl ?_)) (fun w9 h => by
          exact h)
  refine GX.then ?_
  refine GC.ret ?_
  refine GX.ret1 rfl (RR.tmp rfl) ?_
  exact fun w9 h => ⟨(), rfl, by
      have h := h.sel [] rfl rfl
      exact h, trivial⟩
end
section
open Go Go.RowKit Go.Bz

/-! a map that is made of known keys -/
variable {X : Cx} {L : List (Nat × Value)} {Fs : List Pc} {C : List (Nat × Value) → List Pc → Prop} {gd : Option (Nat × Bool)} {ty : TypeId} {x y i : Operand} {pos : String} {af : Array Edge}
def mapP (r : Nat) (es : List MapEntry) (clock : Nat) : Pc := .gen (fun S w => (∀ q, S q ↔ q = r) ∧ w.heap[r]? = some (.map es.toArray clock)) (fun ⟨h1, h2⟩ k => ⟨h1, by rw [k r ((h1 r).2 rfl)]; exact h2⟩)
theorem ot_makeMap {d t : Nat} (hd : Nat.ble (d + 1) X.n = true) (h : ∀ r, C ((d, .map (some r)) :: L) (mapP r [] 0 :: Fs)) : OT X ⟨some d, .makeMap t none, ty, pos, af, gd⟩ L Fs C :=
  ot_eff (γ := Nat) (Φ := fun _ => True) (v := fun r => .map (some r)) (H := fun r => mapP r [] 0 :: Fs) (fun w a hs hf => by
    refine ⟨w.heap.size, w.alloc (.map #[] 0), rfl, hs.push (.alloc w _) (S := fun q => q = w.heap.size) ⟨fun _ => Iff.rfl, heap_new w _⟩ fun b hb => by subst hb; simp, trivial⟩) hd fun r _ => h r
theorem run_ck {P : Program} {w : World} {kt : TypeId} {q : IntKind} {z : Int} (hkt : P.underlying kt = some (.int q)) (e : Bool) : (Instr.checkKey e 10000 kt (.int q z)).run P w = .ok () w := by
  rw [show 10000 = 9999 + 1 from rfl]
  unfold Instr.checkKey
  simp only [Sem.run_bind, run_underlying hkt, Result.andThen_ok]
  rfl
theorem run_fk {P : Program} {w : World} {kt : TypeId} {q : IntKind} {z : Int} {es : List MapEntry} {o : Option (Nat × Value)} (hkt : P.underlying kt = some (.int q)) (hf : Instr.findNow (.int q) (.int q z) es 0 = some o) : (Instr.findKey kt (.int q z) es).run P w = .ok o w := by
  unfold Instr.findKey
  simp only [Sem.run_bind, run_underlying hkt, Result.andThen_ok, hf]
  rfl
theorem ot_insert {k t kt et r clock : Nat} {q : IntKind} {z : Int} {val : Value} {es : List MapEntry} {m key xv : Operand} (ht : X.P.underlying t = some (.map kt et)) (hkt : X.P.underlying kt = some (.int q)) (em : ev L m = some (.map (some r))) (ek : ev L key = some (.int q z)) (ex : ev L xv = some val)
    (hk : Fs[k]? = some (mapP r es clock)) (hf : Instr.findNow (.int q) (.int q z) es 0 = some none) (h : C L (Fs.set k (mapP r (es ++ [{ key := .int q z, val := val, born := clock }]) (clock + 1)))) : OT X ⟨none, .insert t m key xv, ty, pos, af, gd⟩ L Fs C :=
  ot_eff0 (fun w a hs hfr => by
    obtain ⟨S, hA, hSb⟩ := hs.get hk
    have hb : w.heap[r]? = some (.map es.toArray clock) := hA.2
    have h1 : (getObj r).run X.P w = .ok (.map es.toArray clock) w := by simp [getObj, Sem.run, hb]
    have h2 : ∀ o, (setObj r o).run X.P w = .ok () { w with heap := w.heap.setIfInBounds r o } := fun o => by simp [setObj, Sem.run, hb]
    have hrun : (Instr.mapUpdate t (.map (some r)) (.int q z) val).run X.P w = .ok () { w with heap := w.heap.setIfInBounds r (.map (es.toArray.push { key := .int q z, val := val, born := clock }) (clock + 1)) } := by
      unfold Instr.mapUpdate
      simp only [Sem.run_bind, run_underlying ht, Result.andThen_ok, h1, run_ck hkt, run_fk hkt hf, h2]
    refine ⟨{ w with heap := w.heap.setIfInBounds r (.map (es.toArray.push { key := .int q z, val := val, born := clock }) (clock + 1)) }, ?_, hs.upd1 hk fun S hA hbb => ⟨S, ⟨hA.1, ?_⟩, ⟨rfl, rfl, rfl, by simp, fun j _ hn => ?_⟩, fun b hb => .inl hb⟩⟩
    · simp only [execOp, hfr.ev em, hfr.ev ek, hfr.ev ex, Sem.run_bind, hrun, Result.andThen_ok, Sem.run_pure]
    · have hlt : r < w.heap.size := hbb r ((hA.1 r).2 rfl)
      simp [hlt]
    · have hne : r ≠ j := fun e => hn ((hA.1 j).2 e.symm)
      simp [hne]) h
theorem rv_lookup {K : Nat → Prop} {w0 : World} {n k t kt et r clock : Nat} {P : Program} {q : IntKind} {z : Int} {es : List MapEntry} {m key : Operand} {o : Option (Nat × Value)} {zv : Value} {v : Value} {ok : Bool} (ht : P.underlying t = some (.map kt et)) (hkt : P.underlying kt = some (.int q)) (em : ev L m = some (.map (some r))) (ek : ev L key = some (.int q z))
    (hk : Fs[k]? = some (mapP r es clock)) (hz : zeroB P et = some zv) (hf : Instr.findNow (.int q) (.int q z) es 0 = some o) (ho : (match o with | some (_, u) => (u, true) | none => (zv, false)) = (v, ok)) : RV P K w0 n L Fs (.lookup t m key true) ty (.tuple #[v, .bool ok]) := fun w a hs hfr d pos af g => by
  obtain ⟨S, hA⟩ := hs.all _ _ hk
  have hb : w.heap[r]? = some (.map es.toArray clock) := hA.2
  have h1 : (getObj r).run P w = .ok (.map es.toArray clock) w := by simp [getObj, Sem.run, hb]
  have h2 := run_zero (P := P) hz w
  have hl : (Instr.lookup t (.map (some r)) (.int q z) true).run P w = .ok (.tuple #[v, .bool ok]) w := by
    unfold Instr.lookup
    simp only [Sem.run_bind, run_underlying ht, Result.andThen_ok, h1, Sem.run_pure, run_ck hkt, run_fk hkt hf]
    cases o with
    | none =>
      simp only [Prod.mk.injEq] at ho
      obtain ⟨rfl, rfl⟩ := ho
      simp only [Sem.run_bind, h2, Result.andThen_ok, Sem.run_pure, if_true]
    | some p =>
      simp only [Prod.mk.injEq] at ho
      obtain ⟨rfl, rfl⟩ := ho
      simp only [Sem.run_pure, Result.andThen_ok, if_true]
      rfl
  simp only [execOp, hfr.ev em, hfr.ev ek, Sem.run_bind, hl, Result.andThen_ok, Sem.run_pure]
def kind : Sh.B → UInt8
  | [] => 0
  | c :: r => if (c = 69 ∧ r.length = 0) ∨ ((c = 76 ∨ c = 78) ∧ r.length = 64) ∨ (c = 82 ∧ r.length = 104) ∨ (c = 86 ∧ 48 ≤ r.length ∧ r.length ≤ 1073741823) then c else 0
theorem kind_if (c : UInt8) (r : Sh.B) (p : Prop) [Decidable p] (h : ((c = 69 ∧ r.length = 0) ∨ ((c = 76 ∨ c = 78) ∧ r.length = 64) ∨ (c = 82 ∧ r.length = 104) ∨ (c = 86 ∧ 48 ≤ r.length ∧ r.length ≤ 1073741823)) ↔ p) : kind (c :: r) = if decide p = true then c else 0 := by
  rw [kind]
  by_cases hp : p
  · rw [if_pos (h.2 hp), if_pos (decide_eq_true hp)]
  · rw [if_neg (fun q => hp (h.1 q)), if_neg (by simp [hp])]
end
section
open Go Go.RowKit Go.Bz

variable {L : List (Nat × Value)} {Fs : List Pc} {ty : TypeId} {x y : Operand}
theorem rv_buildAp {P : Program} {K : Nat → Prop} {w0 : World} {n t m : Nat} {parts : List (Nat × Operand)} {ps : List (Nat × Value)} {zs cs : List Value} (hz : arrSz P t = some (m, 1)) (hz0 : zeroB P t = some (.agg zs.toArray)) (e : evp L parts = some ps) (hf : Instr.fill (fun i => some (i * 1, 1)) zs.toArray ps = some cs.toArray) :
    RV P K w0 n L Fs (.build t parts.toArray) ty (.agg cs.toArray) := by
  refine rv_build e fun w => ?_
  unfold arrSz at hz
  split at hz <;> try contradiction
  rename_i m' E hu
  obtain ⟨inf, hi, hh⟩ := Option.map_eq_some_iff.1 hz
  simp only [Prod.mk.injEq] at hh
  obtain ⟨rfl, hs⟩ := hh
  have hc : (Value.agg zs.toArray).cells = zs.toArray := rfl
  unfold Instr.build
  simp only [Sem.run_bind, run_zero hz0, Result.andThen_ok, run_underlying hu, Bz.run_sizeOf hi, hs, hc]
  rw [hf]
  simp [Sem.run_pure]
theorem num_inj {a b : UInt64} (h : num a = num b) : a = b := by
  have hd : ∀ n : UInt64, num n = [(n >>> UInt64.ofNat 56).toUInt8, (n >>> UInt64.ofNat 48).toUInt8, (n >>> UInt64.ofNat 40).toUInt8, (n >>> UInt64.ofNat 32).toUInt8, (n >>> UInt64.ofNat 24).toUInt8, (n >>> UInt64.ofNat 16).toUInt8, (n >>> UInt64.ofNat 8).toUInt8, (n >>> UInt64.ofNat 0).toUInt8] := fun _ => rfl
  rw [hd a, hd b] at h
  have hb : ∀ (n : UInt64) (k : Nat), k < 64 → ((n >>> UInt64.ofNat k).toUInt8).toNat = n.toNat / 2 ^ k % 256 := fun n k hk => by
    have e : (UInt64.ofNat k).toNat % 64 = k := by rw [UInt64.toNat_ofNat']; omega
    rw [UInt64.toNat_toUInt8, UInt64.toNat_shiftRight, e, Nat.shiftRight_eq_div_pow]
  simp only [List.cons.injEq, and_true, ← UInt8.toNat_inj] at h
  obtain ⟨h7, h6, h5, h4, h3, h2, h1, h0⟩ := h
  rw [hb _ _ (by omega), hb _ _ (by omega)] at h7 h6 h5 h4 h3 h2 h1 h0
  have ha := lt64 a
  have hbb := lt64 b
  apply UInt64.toNat_inj.1
  simp only [Nat.reducePow] at *
  omega
theorem rbytes_inj {e e' : UInt64} {p t z p' t' z' : Sh.B} (h1 : p.length = 32) (h2 : t.length = 32) (h3 : z.length = 32) (h4 : p'.length = 32) (h5 : t'.length = 32) (h6 : z'.length = 32) : rbytes e p t z = rbytes e' p' t' z' ↔ (e = e' ∧ p = p' ∧ t = t' ∧ z = z') := by
  constructor
  · intro h
    simp only [rbytes, List.cons.injEq, true_and] at h
    obtain ⟨ha, h⟩ := List.append_inj h (by rw [num_len, num_len])
    obtain ⟨hb, h⟩ := List.append_inj h (by omega)
    obtain ⟨hc, hd⟩ := List.append_inj h (by omega)
    exact ⟨num_inj ha, hb, hc, hd⟩
  · rintro ⟨rfl, rfl, rfl, rfl⟩; rfl
theorem two_inj {c : UInt8} {a b a' b' : Sh.B} (h : a.length = a'.length) : c :: (a ++ b) = c :: (a' ++ b') ↔ (a = a' ∧ b = b') := by
  constructor
  · intro h2
    simp only [List.cons.injEq, true_and] at h2
    exact List.append_inj h2 h
  · rintro ⟨rfl, rfl⟩; rfl
theorem vbytes_inj {s s' : Sh.B} {nm nm' : ByteArray} {key key' : Sh.B} {ser ser' : UInt64} (h1 : s.length = 32) (h2 : s'.length = 32) (hn : nm.size ≤ 1000000) (hn' : nm'.size ≤ 1000000) : vbytes s nm key ser = vbytes s' nm' key' ser' ↔ (s = s' ∧ (nm = nm' ∧ ser = ser' ∧ key = key')) := by
  constructor
  · intro h
    simp only [vbytes, List.cons.injEq, true_and] at h
    obtain ⟨ha, h⟩ := List.append_inj h (by omega)
    obtain ⟨hb, h⟩ := List.append_inj h (by rw [num_len, num_len])
    have hs : nm.size = nm'.size := by
      have := congrArg UInt64.toNat (num_inj hb)
      rw [UInt64.toNat_ofNat', UInt64.toNat_ofNat'] at this
      omega
    obtain ⟨hc, h⟩ := List.append_inj h hs
    obtain ⟨hd, he⟩ := List.append_inj h (by rw [num_len, num_len])
    refine ⟨ha, ?_, num_inj hd, he⟩
    cases nm; cases nm'; simp only [ByteArray.mk.injEq] at *
    exact Array.toList_inj.1 hc
  · rintro ⟨rfl, rfl, rfl, rfl⟩; rfl
theorem kind_leaf {a b : Sh.B} (ha : a.length = 32) (hb : b.length = 32) : kind (76 :: (a ++ b)) = 76 := by rw [kind, if_pos (.inr (.inl ⟨.inl rfl, by simp [ha, hb]⟩))]
theorem kind_node {a b : Sh.B} (ha : a.length = 32) (hb : b.length = 32) : kind (78 :: (a ++ b)) = 78 := by rw [kind, if_pos (.inr (.inl ⟨.inr rfl, by simp [ha, hb]⟩))]
theorem kind_val {s : Sh.B} {nm : ByteArray} {key : Sh.B} {ser : UInt64} (h1 : s.length = 32) (hn : nm.size ≤ 2000) (hk : key.length ≤ 2000) : kind (vbytes s nm key ser) = 86 := by
  have e : nm.data.toList.length = nm.size := rfl
  unfold vbytes
  rw [kind, if_pos (.inr (.inr (.inr ⟨rfl, by simp only [List.length_append, num_len, h1, e]; omega, by simp only [List.length_append, num_len, h1, e]; omega⟩)))]
theorem kind_rt {e : UInt64} {p t z : Sh.B} (h1 : p.length = 32) (h2 : t.length = 32) (h3 : z.length = 32) : kind (rbytes e p t z) = 82 := by
  unfold rbytes
  rw [kind, if_pos (.inr (.inr (.inl ⟨rfl, by simp only [List.length_append, num_len, h1, h2, h3]⟩)))]
end
section
open Go Go.RowKit Go.Bz

variable {L : List (Nat × Value)} {Fs : List Pc} {ty : TypeId} {x y : Operand}
theorem rv_neB {P : Program} {K : Nat → Prop} {w0 : World} {n : Nat} {t t' : TypeId} {a b : Bool} (ex : ev L x = some (.bool a)) (ey : ev L y = some (.bool b)) (h : ∀ w, (Op.equal t (.bool a) (.bool b)).run P w = .ok (decide (a = b)) w) : RV P K w0 n L Fs (.binOp .neq t x y t') ty (.bool (!decide (a = b))) :=
  rv_bin ex ey fun w => by
    have e1 : (eqGuard .neq t x y (.bool a) (.bool b)).run P w = .ok () w := rfl
    have e2 : binOp .neq t (.bool a) (.bool b) = (do pure (.bool (!(← Op.equal t (.bool a) (.bool b))))) := rfl
    rw [Sem.run_bind, e1, Result.andThen_ok, e2, Sem.run_bind, h w]; rfl
def two (a b : Sh.B) : List Value := ws8 a ++ ws8 b
theorem two_0 {a b : Sh.B} : ((two a b).drop 0).take (ws8 a).length = ws8 a := by unfold two; simp
theorem two_1 {a b : Sh.B} (h : a.length = 32) : ((two a b).drop 32).take (ws8 b).length = ws8 b := by
  unfold two
  have hl : (ws8 a).length = 32 := by rw [ws8_len, h]
  rw [List.drop_append, List.drop_of_length_le (by omega), hl]; simp
end
section
open Go Go.RowKit Go.Bz
theorem ag_116 : aggB Try.prog 116 = some true := by kernel_rfl
theorem hb_75 : hasBody Try.prog 75 = true := by kernel_rfl
theorem hb_82 : hasBody Try.prog 82 = true := by kernel_rfl
theorem hb_83 : hasBody Try.prog 83 = true := by kernel_rfl
theorem hb_91 : hasBody Try.prog 91 = true := by kernel_rfl
theorem sz_116 : (Try.prog.info? 116).map (·.size) = some 64 := by kernel_rfl
theorem zb_116 : zeroB Try.prog 116 = some (.agg #[.int .u8 0, .int .u8 0, .int .u8 0, .int .u8 0, .int .u8 0, .int .u8 0, .int .u8 0, .int .u8 0, .int .u8 0, .int .u8 0, .int .u8 0, .int .u8 0, .int .u8 0, .int .u8 0, .int .u8 0, .int .u8 0, .int .u8 0, .int .u8 0, .int .u8 0, .int .u8 0, .int .u8 0, .int .u8 0, .int .u8 0, .int .u8 0, .int .u8 0, .int .u8 0, .int .u8 0, .int .u8 0, .int .u8 0, .int .u8 0, .int .u8 0, .int .u8 0, .int .u8 0, .int .u8 0, .int .u8 0, .int .u8 0, .int .u8 0, .int .u8 0, .int .u8 0, .int .u8 0, .int .u8 0, .int .u8 0, .int .u8 0, .int .u8 0, .int .u8 0, .int .u8 0, .int .u8 0, .int .u8 0, .int .u8 0, .int .u8 0, .int .u8 0, .int .u8 0, .int .u8 0, .int .u8 0, .int .u8 0, .int .u8 0, .int .u8 0, .int .u8 0, .int .u8 0, .int .u8 0, .int .u8 0, .int .u8 0, .int .u8 0, .int .u8 0]) := by kernel_rfl
/-! keyed digests, plain -/
def kshort (key : Sh.B) : Sh.B := if 64 < key.length then Sh.sum key else key
theorem kshort_len (key : Sh.B) : (kshort key).length ≤ 64 := by
  unfold kshort; split
  · rw [Sh.sum_len]; omega
  · omega
def kpad (k : Sh.B) : Sh.B := k ++ List.replicate (64 - k.length) 0
def kb (key : Sh.B) : Sh.B := kpad (kshort key)
theorem kpad_len {k : Sh.B} (h : k.length ≤ 64) : (kpad k).length = 64 := by unfold kpad; simp; omega
theorem kb_len (key : Sh.B) : (kb key).length = 64 := kpad_len (kshort_len key)
def xk (k : Sh.B) (t : UInt8) : Sh.B := k.map (· ^^^ t)
theorem xk_len (k : Sh.B) (t : UInt8) : (xk k t).length = k.length := by simp [xk]
def xTo (k : Sh.B) (t : UInt8) (i : Nat) : Sh.B := xk (k.take i) t ++ k.drop i
theorem xTo_len (k : Sh.B) (t : UInt8) (i : Nat) (h : i ≤ k.length) : (xTo k t i).length = k.length := by simp [xTo, xk]; omega
theorem xTo_get (k : Sh.B) (t : UInt8) (i : Nat) (h : i < k.length) : (xTo k t i).getD i 0 = k[i] := by
  have hl : (xk (k.take i) t).length = i := by simp [xk]; omega
  unfold xTo
  rw [List.getD_eq_getElem?_getD, List.getElem?_append_right (by omega), hl, Nat.sub_self, List.drop_eq_getElem_cons h]; rfl
theorem xTo_step (k : Sh.B) (t : UInt8) (i : Nat) (h : i < k.length) : (xTo k t i).set i (k[i] ^^^ t) = xTo k t (i + 1) := by
  have hl : (xk (k.take i) t).length = i := by simp [xk]; omega
  unfold xTo
  rw [List.set_append_right _ _ (by omega), hl, Nat.sub_self, List.drop_eq_getElem_cons h, List.set_cons_zero, List.take_succ_eq_append_getElem h]
  unfold xk
  rw [List.map_append, List.append_assoc]
  rfl
theorem xTo_all (k : Sh.B) (t : UInt8) : xTo k t k.length = xk k t := by simp [xTo]
def mac (key b : Sh.B) : Sh.B := Sh.sum (xk (kb key) 92 ++ Sh.sum (xk (kb key) 54 ++ b))
theorem mac_len (key b : Sh.B) : (mac key b).length = 32 := Sh.sum_len _
theorem kb_copy (k : Sh.B) (h : k.length ≤ 64) : repl (ws8 (List.replicate 64 0)) 0 (byts k) = ws8 (kpad k) := by
  rw [repl_eq _ _ _ (by rw [byts_len, ws8_len, List.length_replicate]; omega), byts_len]
  unfold kpad
  rw [ws8_app, ws8_drop, Nat.zero_add, List.drop_replicate]
  simp [byts, ws8]
/-- the reference's block of a key, byte by byte -/
def rkTo (k : Sh.B) (t : UInt8) : Nat → Sh.B
  | 0 => List.replicate 64 0
  | i + 1 => (rkTo k t i).set i (k.getD i 0 ^^^ t)
theorem rkTo_len (k : Sh.B) (t : UInt8) : ∀ i, (rkTo k t i).length = 64
  | 0 => by simp [rkTo]
  | i + 1 => by unfold rkTo; rw [List.length_set]; exact rkTo_len k t i
theorem rkTo_get (k : Sh.B) (t : UInt8) : ∀ i j, j < i → i ≤ 64 → (rkTo k t i)[j]? = some (k.getD j 0 ^^^ t)
  | i + 1, j, h, h2 => by
    unfold rkTo
    by_cases e : j = i
    · subst e; rw [List.getElem?_set_self (by rw [rkTo_len]; omega)]
    · rw [List.getElem?_set_ne (by omega)]; exact rkTo_get k t i j (by omega) (by omega)
theorem rkTo_all (k : Sh.B) (t : UInt8) (h : k.length ≤ 64) : rkTo k t 64 = xk (kpad k) t := by
  apply List.ext_getElem?
  intro j
  by_cases hj : j < 64
  · rw [rkTo_get k t 64 j hj (by omega)]
    unfold xk kpad
    rw [List.getElem?_map]
    by_cases h2 : j < k.length
    · rw [List.getElem?_append_left h2, List.getElem?_eq_getElem h2]; simp [List.getD_eq_getElem?_getD, List.getElem?_eq_getElem h2]
    · rw [List.getElem?_append_right (by omega), List.getElem?_replicate, if_pos (by omega)]
      simp [List.getD_eq_getElem?_getD, List.getElem?_eq_none (show k.length ≤ j by omega)]
  · rw [List.getElem?_eq_none (by rw [rkTo_len]; omega), List.getElem?_eq_none (by rw [xk_len, kpad_len h]; omega)]
theorem kpad_short {key : Sh.B} (h : key.length ≤ 64) : kpad key = kb key := by unfold kb kshort; rw [if_neg (by omega)]
theorem kpad_long {key : Sh.B} (h : 64 < key.length) : kpad (Sh.sum key) = kb key := by unfold kb kshort; rw [if_pos h]
theorem St.frzW {K : Nat → Prop} {w0 w wb : World} {Fs : List Pc} {k : Nat} {l : List Fact} (h : St K w0 w Fs) (e : Fs[k]? = some (frzN l)) : St K w0 w (Fs.set k (frz wb l)) :=
  h.weak e fun S hA hb => ⟨S, fun f hf => .inr (hA f hf), fun _ h => h⟩
set_option maxRecDepth 100000 in
set_option maxHeartbeats 1000000 in
theorem padded_c (A : Option Addr) (l c : Nat) (key : Sh.B) (w : World) (hR : SlR w A (byts key)) (hl : key.length = l) (hc : l ≤ c) (hbig : l < 70368744177664) : Calls Try.prog 82 [.slice A l c].toArray w fun e w' => ∃ _g : Unit, e = .returned (.agg (ws8 (kb key)).toArray) ∧ St noB w w' [] ∧ True := by
  refine GC.calls Try.func82 rfl rfl (St.begin _) ?_
  subst hl
  refine GC.seq ?_
  refine GC.reg ?_
  refine GL.step (ot_alloc (zs := ws8 (List.replicate 64 0)) zb_116 (rfl) rfl fun b2 => ?_)
  refine GL.nil ?_
  refine GX.then ?_
  refine GC.seq ?_
  refine GC.reg ?_
  refine GL.step (ot_alloc (zs := ws8 (List.replicate 64 0)) zb_116 (rfl) rfl fun b3 => ?_)
  refine GL.nil ?_
  refine GX.then ?_
  refine GC.seq ?_
  refine GC.seq ?_
  refine GC.reg ?_
  refine GL.val (rv_move rfl) rfl ?_
  refine GL.val (rv_lenSl Try.underlying27 rfl) rfl ?_
  refine GL.val (rv_gtr rfl rfl) rfl ?_
  refine GL.nil ?_
  refine GX.then ?_
  refine GC.condP rfl (fun c7 => ?_) (fun c7 => ?_)
  · have c7' : 64 < key.length := by omega
    refine GC.seq ?_
    refine GC.reg ?_
    refine GL.val (rv_move rfl) rfl ?_
    refine GL.step (ot_call hb_91 rfl (callOk fun w hh => sum_c _ c A key w (hh.rd0n hR) rfl hc (by omega)) rfl fun _ _ => ?_)
    refine GL.step (ot_alloc (zs := ws8 (List.replicate 32 0)) zb_29 (rfl) rfl fun b4 => ?_)
    refine GL.step (ot_storeA (k := 0) rfl rfl rfl rfl (by exact sz_29) (by (first | (simp only [ws8_len, List.length_replicate, Sh.sum_len, kb_len]; done) | (simp only [ws8_len]; exact kpad_len (by omega)))) (by (first | (simp only [ws8_len, List.length_replicate, Sh.sum_len, kb_len]; done) | (simp only [ws8_len]; exact kpad_len (by omega)))) (by exact ws8_one _) ?_)
    refine GL.nil ?_
    refine GX.then ?_
    refine GC.reg ?_
    refine GL.val (rv_to (v' := .slice (some ⟨b4, 0, none⟩) (Sh.sum key).length 32) (rv_slA (E := 5) as_29 rfl rfl rfl 0 32 0 rfl rfl (by decide) (by decide) (by decide) rfl) (by rw [Sh.sum_len])) rfl ?_
    refine GL.val (rv_assign rfl) rfl ?_
    refine GL.nil ?_
    refine GX.then ?_
    refine GC.seq ?_
    refine GC.reg ?_
    refine GL.val (rv_to (v' := .slice (some ⟨b3, 0, none⟩) 64 64) (rv_slA (E := 5) as_116 rfl rfl rfl 0 64 0 rfl rfl (by decide) (by decide) (by decide) rfl) rfl) rfl ?_
    refine GL.val (rv_move rfl) rfl ?_
    refine GL.step (ot_copy (k := 1) (m := 32) (us := byts (Sh.sum key)) (cs' := ws8 (kb key)) ei_27 rfl rfl (by rw [Sh.sum_len]; rfl) rfl (fun w h => .inr ⟨b4, 0, rfl, Hd.cellsAll (k := 0) rfl w h⟩) (by rw [byts_len, Sh.sum_len]) (byts_one _) (by rw [byts_len, Sh.sum_len, ws8_len, List.length_replicate]; omega) (by rw [← kpad_long c7']; exact kb_copy _ (by rw [Sh.sum_len]; omega)) rfl ?_)
    refine GL.nil ?_
    refine GX.then ?_
    refine GC.seq ?_
    refine GC.reg ?_
    refine GL.val (rv_loadAL ag_116 rfl (by exact Hd.cellsAll (k := 1) rfl) (by exact sz_116) (by (first | (simp only [ws8_len, List.length_replicate, Sh.sum_len, kb_len]; done) | (simp only [ws8_len]; exact kpad_len (by omega))))) rfl ?_
    refine GL.step (ot_storeA (k := 2) rfl rfl rfl rfl (by exact sz_116) (by (first | (simp only [ws8_len, List.length_replicate, Sh.sum_len, kb_len]; done) | (simp only [ws8_len]; exact kpad_len (by omega)))) (by (first | (simp only [ws8_len, List.length_replicate, Sh.sum_len, kb_len]; done) | (simp only [ws8_len]; exact kpad_len (by omega)))) (by exact ws8_one _) ?_)
    refine GL.nil ?_
    refine GX.then ?_
    refine GC.ret ?_
    refine GX.ret1 rfl (RR.cellL ag_116 rfl (by exact Hd.cellsAll (k := 2) rfl) (by exact sz_116) (by (first | (simp only [ws8_len, List.length_replicate, Sh.sum_len, kb_len]; done) | (simp only [ws8_len]; exact kpad_len (by omega))))) ?_
    exact fun w9 h => ⟨(), rfl, by
        have h := h.sel [] rfl rfl
        exact h, trivial⟩
  · refine GC.skip ?_
    refine GX.then ?_
    refine GC.seq ?_
    refine GC.reg ?_
    refine GL.val (rv_to (v' := .slice (some ⟨b3, 0, none⟩) 64 64) (rv_slA (E := 5) as_116 rfl rfl rfl 0 64 0 rfl rfl (by decide) (by decide) (by decide) rfl) rfl) rfl ?_
    refine GL.val (rv_move rfl) rfl ?_
    refine GL.step (ot_copy (k := 0) (m := key.length) (us := byts key) (cs' := ws8 (kb key)) ei_27 rfl rfl (by omega) rfl (fun w h => h.rd0n hR) (by rw [byts_len, Nat.mul_one]) (byts_one _) (by rw [byts_len, ws8_len, List.length_replicate]; omega) (by rw [← kpad_short (by omega)]; exact kb_copy _ (by omega)) rfl ?_)
    refine GL.nil ?_
    refine GX.then ?_
    refine GC.seq ?_
    refine GC.reg ?_
    refine GL.val (rv_loadAL ag_116 rfl (by exact Hd.cellsAll (k := 0) rfl) (by exact sz_116) (by (first | (simp only [ws8_len, List.length_replicate, Sh.sum_len, kb_len]; done) | (simp only [ws8_len]; exact kpad_len (by omega))))) rfl ?_
    refine GL.step (ot_storeA (k := 1) rfl rfl rfl rfl (by exact sz_116) (by (first | (simp only [ws8_len, List.length_replicate, Sh.sum_len, kb_len]; done) | (simp only [ws8_len]; exact kpad_len (by omega)))) (by (first | (simp only [ws8_len, List.length_replicate, Sh.sum_len, kb_len]; done) | (simp only [ws8_len]; exact kpad_len (by omega)))) (by exact ws8_one _) ?_)
    refine GL.nil ?_
    refine GX.then ?_
    refine GC.ret ?_
    refine GX.ret1 rfl (RR.cellL ag_116 rfl (by exact Hd.cellsAll (k := 1) rfl) (by exact sz_116) (by (first | (simp only [ws8_len, List.length_replicate, Sh.sum_len, kb_len]; done) | (simp only [ws8_len]; exact kpad_len (by omega))))) ?_
    exact fun w9 h => ⟨(), rfl, by
        have h := h.sel [] rfl rfl
        exact h, trivial⟩
set_option maxRecDepth 100000 in
set_option maxHeartbeats 1000000 in
theorem keyed_c (A : Option Addr) (l c : Nat) (key : Sh.B) (w : World) (hR : SlR w A (byts key)) (hl : key.length = l) (hc : l ≤ c) (hbig : l < 70368744177664) : Calls Try.prog 75 [.slice A l c].toArray w fun e w' => ∃ g : Nat, e = .returned (.func (.func 83) #[] [.pointer (some ⟨g, 0, none⟩)].toArray) ∧ St noB w w' [.cl g (ws8 (kb key)) 116] ∧ True := by
  refine GC.calls Try.func75 rfl rfl (St.begin _) ?_
  refine GC.seq ?_
  refine GC.reg ?_
  refine GL.val (rv_assign rfl) rfl ?_
  refine GL.nil ?_
  refine GX.then ?_
  refine GC.seq ?_
  refine GC.reg ?_
  refine GL.val (rv_move rfl) rfl ?_
  refine GL.step (ot_call hb_82 rfl (callOk fun w hh => padded_c A l c key w (hh.rd0n hR) hl hc hbig) rfl fun _ _ => ?_)
  refine GL.step (ot_alloc (zs := ws8 (List.replicate 64 0)) zb_116 (rfl) rfl fun b3 => ?_)
  refine GL.step (ot_storeA (k := 0) rfl rfl rfl rfl (by exact sz_116) (by (simp only [ws8_len, List.length_replicate, kb_len])) (by (simp only [ws8_len, List.length_replicate, kb_len])) (by exact ws8_one _) ?_)
  refine GL.nil ?_
  refine GX.then ?_
  refine GC.seq ?_
  refine GC.reg ?_
  refine GL.val (rv_makeFunc rfl) rfl ?_
  refine GL.val (rv_assign rfl) rfl ?_
  refine GL.nil ?_
  refine GX.then ?_
  refine GC.ret ?_
  refine GX.ret1 rfl (RR.tmp rfl) ?_
  exact fun w9 h => ⟨b3, rfl, by
      exact h, trivial⟩
set_option maxRecDepth 100000 in
set_option maxHeartbeats 1000000 in
theorem maker_c (t : UInt8) (b : Nat) (kk : Sh.B) (w : World) (hC : Cells w b 0 (ws8 kk)) (hk : kk.length = 64) : Calls Try.prog 83 [v8 t, .pointer (some ⟨b, 0, none⟩)].toArray w fun e w' => ∃ g : Nat × Sh.W × Sh.B × Nat, e = .returned (.pointer (some ⟨g.1, 0, none⟩)) ∧ St noB w w' [.cl g.1 (Sh.hc g.2.1 g.2.2.1 g.2.2.2 (UInt64.ofNat (xk kk t).length)) 122] ∧ Sh.Rep (xk kk t) g.2.1 g.2.2.1 g.2.2.2 := by
  refine GC.calls Try.func83 rfl rfl (St.begin _) ?_
  refine GC.seq ?_
  refine GC.reg ?_
  refine GL.val (rv_assign rfl) rfl ?_
  refine GL.nil ?_
  refine GX.then ?_
  refine GC.seq ?_
  refine GC.reg ?_
  refine GL.val (rv_loadAL ag_116 rfl (Hd.cells0 hC (fun h => h)) (by exact sz_116) (by (first | (simp only [ws8_len, hk, List.length_replicate]; done)))) rfl ?_
  refine GL.step (ot_alloc (zs := ws8 (List.replicate 64 0)) zb_116 (rfl) rfl fun b4 => ?_)
  refine GL.step (ot_storeA (k := 0) rfl rfl rfl rfl (by exact sz_116) (by (first | (simp only [ws8_len, hk, List.length_replicate]; done))) (by (first | (simp only [ws8_len, hk, List.length_replicate]; done))) (by exact ws8_one _) ?_)
  refine GL.nil ?_
  refine GX.then ?_
  refine GC.seq ?_
  refine GC.seq ?_
  refine GC.reg ?_
  refine GL.val (rv_move rfl) rfl ?_
  refine GL.nil ?_
  refine GX.then ?_
  refine GC.block ?_
  refine GC.loopK (γ := Nat) [4, 0] [] (fun g Lk => (8, .int .i64 (g : Int)) :: Lk) (fun g Fk => .cl b4 (ws8 (xTo kk t g)) 116 :: Fk) (fun g => g ≤ 64) (fun g => 64 - g) (0) rfl rfl (Nat.zero_le _) (by repeat (first | exact Sub.nil | refine Sub.cons rfl ?_)) (fun w9 h => by
      exact h) (fun i hi => ?_)
  skip
  refine GC.seq ?_
  refine GC.reg ?_
  refine GL.val (rv_lss rfl rfl) rfl ?_
  refine GL.nil ?_
  refine GX.then ?_
  refine GC.seq ?_
  refine GC.condP rfl (fun c9 => ?_) (fun c9 => ?_)
  · have hlt : i < 64 := by omega
    refine GC.skip ?_
    refine GX.then ?_
    refine GC.seq ?_
    refine GC.block ?_
    refine GC.seq ?_
    refine GC.reg ?_
    refine GL.val (rv_move rfl) rfl ?_
    refine GL.val (rv_assign rfl) rfl ?_
    refine GL.nil ?_
    refine GX.then ?_
    refine GC.reg ?_
    refine GL.val (rv_move rfl) rfl ?_
    refine GL.val (rv_elemAJ (q := i) (i) as_116 rfl rfl (by rfl) (by omega) (by omega)) rfl ?_
    refine GL.val (rv_load ag_5 rfl (Hd.cell (k := 0) rfl (ws8_get (by rw [xTo_len _ _ _ (by omega)]; omega)))) rfl ?_
    refine GL.val (rv_move rfl) rfl ?_
    refine GL.val (rv_xor8 rfl rfl) rfl ?_
    refine GL.val (rv_elemAJ (q := i) (i) as_116 rfl rfl (by rfl) (by omega) (by omega)) rfl ?_
    refine GL.step (ot_store1 (k := 0) rfl rfl rfl rfl (by exact sz_5) rfl (by rw [ws8_len, xTo_len _ _ _ (by omega)]; omega) (by rw [ws8_set, xTo_get kk t i (by omega), xTo_step kk t i (by omega)]) ?_)
    refine GL.nil ?_
    refine GX.blk ?_
    refine GX.then ?_
    refine GC.reg ?_
    refine GL.val (rv_add rfl rfl (by omega) (by omega)) rfl ?_
    refine GL.val (rv_move rfl) rfl ?_
    refine GL.nil ?_
    exact GX.round (i + 1) (by omega) (by omega) (by repeat (first | exact Sub.nil | refine Sub.cons rfl ?_)) (fun w9 h => by
        exact h)
  · obtain rfl : i = 64 := by omega
    rw [show xTo kk t 64 = xk kk t from by rw [← hk]; exact xTo_all kk t]
    refine GC.exit ?_
    refine GX.then_exit ?_
    refine GX.then_exit ?_
    refine GX.blk_eq ?_
    refine GX.then ?_
    refine GC.seq ?_
    refine GC.reg ?_
    refine GL.step (ot_call hb_84 rfl (callOk fun w hh => new_c w) rfl fun b6 _ => ?_)
    refine GL.val (rv_assign rfl) rfl ?_
    refine GL.nil ?_
    refine GX.then ?_
    refine GC.seq ?_
    refine GC.reg ?_
    refine GL.val (rv_move rfl) rfl ?_
    refine GL.val (rv_to (v' := .slice (some ⟨b4, 0, none⟩) 64 64) (rv_slA (E := 5) as_116 rfl rfl rfl 0 64 0 rfl rfl (by decide) (by decide) (by decide) rfl) rfl) rfl ?_
    refine GL.step (ot_call hb_76 rfl (callOkS (k := 0) rfl fun w S hh hA hb hs => write_c b6 64 64 (some ⟨b4, 0, none⟩) [] (xk kk t) Sh.H0 (List.replicate 64 0) 0 w S Sh.Rep.begin hA (fun b h => (hb b h).1) (hs.cl (j := 1) rfl (by decide) hh (by rw [byts_ws]; simp)) (by rw [xk_len, hk]) (by decide) (by decide)) rfl fun gw hr2 => ?_)
    obtain ⟨hw2, blk2, hv2⟩ := gw
    simp only [List.nil_append] at hr2 ⊢
    refine GL.nil ?_
    refine GX.then ?_
    refine GC.seq ?_
    refine GC.reg ?_
    refine GL.val (rv_move rfl) rfl ?_
    refine GL.val (rv_assign rfl) rfl ?_
    refine GL.nil ?_
    refine GX.then ?_
    refine GC.ret ?_
    refine GX.ret1 rfl (RR.tmp rfl) ?_
    exact fun w9 h => ⟨(b6, hw2, blk2, hv2), rfl, by
        have h := h.sel [0] rfl rfl
        exact h, hr2⟩
set_option maxRecDepth 100000 in
set_option maxHeartbeats 1000000 in
theorem mac_c (A : Option Addr) (l c : Nat) (key : Sh.B) (A2 : Option Addr) (n c2 : Nat) (ps : List Sp) (w : World) (hR : SlR w A (byts key)) (hl : key.length = l) (hc : l ≤ c) (hbig : l < 70368744177664) (hR2 : SlR w A2 (sls ps)) (hP : ∀ q ∈ ps, SlR w q.2.1 (byts q.1)) (hPc : ∀ q ∈ ps, q.1.length ≤ q.2.2) (hn : ps.length = n) (hnb : n ≤ 1099511627776) (hpb : (cat ps).length ≤ 1099511627776) : Calls Try.prog 67 [.slice A l c, .slice A2 n c2].toArray w fun e w' => ∃ _g : Unit, e = .returned (.agg (ws8 (mac key (cat ps))).toArray) ∧ St noB w w' [] ∧ True := by
  refine GC.calls Try.func67 rfl rfl (St.begin _) ?_
  subst hn
  have HA := sHead hR2
  have hkl := kb_len key
  refine GC.seq ?_
  refine GC.reg ?_
  refine GL.step (ot_alloc (zs := ws8 (List.replicate 32 0)) zb_29 (rfl) rfl fun b4 => ?_)
  refine GL.nil ?_
  refine GX.then ?_
  refine GC.seq ?_
  refine GC.reg ?_
  refine GL.val (rv_move rfl) rfl ?_
  refine GL.step (ot_call hb_75 rfl (callOk fun w hh => keyed_c A l c key w (hh.rd0n hR) hl hc hbig) rfl fun bk _ => ?_)
  refine GL.val (rv_assign rfl) rfl ?_
  refine GL.nil ?_
  refine GX.then ?_
  refine GC.seq ?_
  refine GC.reg ?_
  refine GL.val (rv_move rfl) rfl ?_
  refine GL.step (ot_callv hb_83 rfl rfl (callOk fun w hh => maker_c 54 bk (kb key) w (Hd.cellsAll (k := 0) rfl w hh) hkl) rfl fun gi hri => ?_)
  obtain ⟨bi, hwi, blki, hvi⟩ := gi
  dsimp only at hri ⊢
  refine GL.val (rv_assign rfl) rfl ?_
  refine GL.nil ?_
  refine GX.then ?_
  refine GC.seq ?_
  refine GC.seq ?_
  refine GC.reg ?_
  refine GL.val (rv_move rfl) rfl ?_
  refine GL.val (rv_lenSl Try.underlying105 rfl) rfl ?_
  refine GL.val (rv_move rfl) rfl ?_
  refine GL.nil ?_
  refine GX.then ?_
  refine GC.block ?_
  refine GC.loopK (γ := Nat × Sh.W × Sh.B × Nat) [16, 15, 6, 5, 4] [2, 1] (fun g Lk => (17, .int .i64 (g.1 : Int)) :: Lk) (fun g Fk => .cl bi (Sh.hc g.2.1 g.2.2.1 g.2.2.2 (UInt64.ofNat (xk (kb key) 54 ++ cat (ps.take g.1)).length)) 122 :: Fk) (fun g => (g.1 ≤ ps.length) ∧ (Sh.Rep (xk (kb key) 54 ++ cat (ps.take g.1)) g.2.1 g.2.2.1 g.2.2.2)) (fun g => ps.length - g.1) (0, hwi, blki, hvi) rfl rfl ⟨Nat.zero_le _, by rw [show xk (kb key) 54 ++ cat (ps.take 0) = xk (kb key) 54 from List.append_nil _]; exact hri⟩ (by repeat (first | exact Sub.nil | refine Sub.cons rfl ?_)) (fun w9 h => by
      rw [show xk (kb key) 54 ++ cat (ps.take 0) = xk (kb key) 54 from List.append_nil _]
      exact h) (fun ⟨j, hw1, blk1, hv1⟩ ⟨hj, hr1⟩ => ?_)
  dsimp only at hj hr1 ⊢
  refine GC.seq ?_
  refine GC.reg ?_
  refine GL.val (rv_lss rfl rfl) rfl ?_
  refine GL.nil ?_
  refine GX.then ?_
  refine GC.seq ?_
  refine GC.condP rfl (fun c18 => ?_) (fun c18 => ?_)
  · have hlt : j < ps.length := by omega
    obtain ⟨b, o, rfl, hC⟩ := HA.resolve_left (by omega)
    refine GC.skip ?_
    refine GX.then ?_
    refine GC.seq ?_
    refine GC.block ?_
    refine GC.seq ?_
    refine GC.reg ?_
    refine GL.val (rv_elemJ (q := o + j) j es_105 rfl rfl rfl (by omega) (by omega)) rfl ?_
    refine GL.val (rv_load ag_27 rfl (Hd.cell0 (sAt hC hlt) (fun h => h))) rfl ?_
    refine GL.val (rv_assign rfl) rfl ?_
    refine GL.nil ?_
    refine GX.then ?_
    refine GC.reg ?_
    refine GL.val (rv_move rfl) rfl ?_
    refine GL.val (rv_move rfl) rfl ?_
    refine GL.step (ot_call hb_76 rfl (callOkS (k := 0) rfl fun w S hh hA hb hs => write_c bi _ _ _ (xk (kb key) 54 ++ cat (ps.take j)) ps[j].1 hw1 blk1 hv1 w S hr1 hA (fun b h => (hb b h).1) (SlA.old (SlR.a0 (hP _ (List.getElem_mem hlt))) hh hb) rfl (hPc _ (List.getElem_mem hlt)) (by have := cat_le ps (j + 1); rw [cat_step ps j hlt, List.length_append] at this; omega)) rfl fun gw hr2 => ?_)
    obtain ⟨hw2, blk2, hv2⟩ := gw
    dsimp only at hr2 ⊢
    refine GL.nil ?_
    refine GX.blk ?_
    refine GX.then ?_
    refine GC.reg ?_
    refine GL.val (rv_add rfl rfl (by omega) (by omega)) rfl ?_
    refine GL.val (rv_move rfl) rfl ?_
    refine GL.nil ?_
    exact GX.round (j + 1, hw2, blk2, hv2) (by dsimp only; omega) ⟨by dsimp only; omega, by dsimp only; rw [cat_step ps j hlt, ← List.append_assoc]; exact hr2⟩ (by repeat (first | exact Sub.nil | refine Sub.cons rfl ?_)) (fun w9 h => by
        dsimp only
        rw [cat_step ps j hlt, ← List.append_assoc]
        exact h)
  · obtain rfl : j = ps.length := by omega
    rw [List.take_of_length_le (Nat.le_refl _)] at hr1 ⊢
    refine GC.exit ?_
    refine GX.then_exit ?_
    refine GX.then_exit ?_
    refine GX.blk_eq ?_
    refine GX.then ?_
    refine GC.seq ?_
    refine GC.reg ?_
    refine GL.val (rv_move rfl) rfl ?_
    refine GL.step (ot_call hb_77 rfl (callOk fun w hh => digest_c bi (xk (kb key) 54 ++ cat ps) hw1 blk1 hv1 w hr1 (Hd.cellsAll (k := 0) rfl w hh)) rfl fun _ _ => ?_)
    refine GL.step (ot_alloc (zs := ws8 (List.replicate 32 0)) zb_29 (rfl) rfl fun b9 => ?_)
    refine GL.step (ot_storeA (k := 0) rfl rfl rfl rfl (by exact sz_29) (by (simp only [ws8_len, List.length_replicate, Sh.sum_len, mac_len])) (by (simp only [ws8_len, List.length_replicate, Sh.sum_len, mac_len])) (by exact ws8_one _) ?_)
    refine GL.nil ?_
    refine GX.then ?_
    refine GC.seq ?_
    refine GC.reg ?_
    refine GL.val (rv_move rfl) rfl ?_
    refine GL.step (ot_callv hb_83 rfl rfl (callOk fun w hh => maker_c 92 bk (kb key) w (Hd.cellsAll (k := 2) rfl w hh) hkl) rfl fun go hro => ?_)
    obtain ⟨bo, hwo, blko, hvo⟩ := go
    dsimp only at hro ⊢
    refine GL.val (rv_assign rfl) rfl ?_
    refine GL.nil ?_
    refine GX.then ?_
    refine GC.seq ?_
    refine GC.reg ?_
    refine GL.val (rv_move rfl) rfl ?_
    refine GL.val (rv_to (v' := .slice (some ⟨b9, 0, none⟩) (Sh.sum (xk (kb key) 54 ++ cat ps)).length 32) (rv_slA (E := 5) as_29 rfl rfl rfl 0 32 0 rfl rfl (by decide) (by decide) (by decide) rfl) (by rw [Sh.sum_len])) rfl ?_
    refine GL.step (ot_call hb_76 rfl (callOkS (k := 0) rfl fun w S hh hA hb hs => write_c bo _ _ _ (xk (kb key) 92) (Sh.sum (xk (kb key) 54 ++ cat ps)) hwo blko hvo w S hro hA (fun b h => (hb b h).1) (hs.cl (j := 1) rfl (by decide) hh (by rw [byts_ws]; simp)) rfl (by rw [Sh.sum_len]; decide) (by rw [Sh.sum_len]; decide)) rfl fun gx hrx => ?_)
    obtain ⟨hwx, blkx, hvx⟩ := gx
    dsimp only at hrx ⊢
    refine GL.nil ?_
    refine GX.then ?_
    refine GC.seq ?_
    refine GC.reg ?_
    refine GL.val (rv_move rfl) rfl ?_
    refine GL.step (ot_call hb_77 rfl (callOk fun w hh => digest_c bo (xk (kb key) 92 ++ Sh.sum (xk (kb key) 54 ++ cat ps)) hwx blkx hvx w hrx (Hd.cellsAll (k := 0) rfl w hh)) rfl fun _ _ => ?_)
    refine GL.step (ot_storeA (k := 4) rfl rfl rfl rfl (by exact sz_29) (by (simp only [ws8_len, List.length_replicate, Sh.sum_len, mac_len])) (by (simp only [ws8_len, List.length_replicate, Sh.sum_len, mac_len])) (by exact ws8_one _) ?_)
    refine GL.nil ?_
    refine GX.then ?_
    refine GC.ret ?_
    refine GX.ret1 rfl (RR.cellL ag_29 rfl (by exact Hd.cellsAll (k := 4) rfl) (by exact sz_29) (by (simp only [ws8_len, List.length_replicate, Sh.sum_len, mac_len]))) ?_
    exact fun w9 h => ⟨(), rfl, by
        have h := h.sel [] rfl rfl
        exact h, trivial⟩
end
end Go.Proofs.Ytkifeeiafachpaa
