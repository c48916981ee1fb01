/- Array literals, function values, calls that write beside what they read, bytes of strings. Nothing of the program stands here. -/
import Derived.Test.YtkifeeiafachpaaWd
import Derived.Lib.ConvBytes
set_option linter.unusedVariables false
set_option linter.unusedSimpArgs false
namespace Go.Bz
open Go Go.RowKit

variable {X : Cx} {ops : Array Oper} {rest : List Oper} {Q Q' : Exit → Act → World → Prop} {L L' Lk : List (Nat × Value)} {Fs Fs' Fk Kp : List Pc} {c : Code}
variable {K : Nat → Prop} {w0 w w' wb : World} {C : List (Nat × Value) → List Pc → Prop} {g : Option (Nat × Bool)} {P : Program} {n : Nat} {ty : TypeId} {x y i : Operand} {pos : String} {af : Array Edge} {F : Pc}

/-- an array that is written out whole -/
theorem rv_buildA {t m : Nat} {parts : List (Nat × Operand)} {vs zs : List Value} (hz : arrSz P t = some (m, 1)) (hz0 : zeroB P t = some (.agg zs.toArray)) (e : evl L 0 parts = some vs) (hl : Nat.beq vs.length zs.length = true) (hv : vs.all (fun v => Nat.beq v.cells.size 1) = true) {cs : List Value} (hcs : (vs.flatMap fun v => v.cells.toList) = cs) :
    RV P K w0 n L Fs (.build t parts.toArray) ty (.agg cs.toArray) := by
  refine rv_build (evl_evp e) fun w => ?_
  unfold arrSz at hz
  split at hz <;> try contradiction
  rename_i m' E hu
  obtain ⟨inf, hi, hh⟩ := Option.map_eq_some_iff.1 hz
  simp only [Prod.mk.injEq] at hh
  obtain ⟨rfl, hs⟩ := hh
  have hl' := Nat.eq_of_beq_eq_true hl
  have hf := fill_full (sz := 1) vs 0 zs (by omega) (fun v hvv => Nat.eq_of_beq_eq_true (List.all_eq_true.1 hv v hvv))
  subst hcs
  have hc : (Value.agg zs.toArray).cells = zs.toArray := rfl
  unfold Instr.build
  simp only [Sem.run_bind, run_zero hz0, Result.andThen_ok, run_underlying hu, run_sizeOf hi, hs, hc]
  rw [hf]
  simp [Sem.run_pure]

theorem rv_loadAL {t m b o : Nat} {cs : List Value} (ht : aggB P t = some true) (e : ev L x = some (.pointer (some ⟨b, o, none⟩))) (hc : ∀ w, Hd K w0 w Fs → Cells w b o cs) (hz : (P.info? t).map (·.size) = some m) (hl : cs.length = m) : RV P K w0 n L Fs (.load t x) ty (.agg cs.toArray) := rv_loadA ht e hc (hl ▸ hz)
theorem RR.cellL {t T b o m : Nat} {cs : List Value} (ht : aggB X.P T = some true) (e : lk L t = some (.pointer (some ⟨b, o, none⟩))) (hc : ∀ w, Hd X.K X.w0 w Fs → Cells w b o cs) (hz : (X.P.info? T).map (·.size) = some m) (hl : cs.length = m) : RR X L Fs (.cell t T) (.agg cs.toArray) := RR.cell ht e hc (hl ▸ hz)
theorem repl_all : ∀ (vs cs : List Value), vs.length = cs.length → repl cs 0 vs = vs := fun vs cs h => by
  rw [repl_eq vs cs 0 (by omega)]; simp [h]
/-- a whole block is written -/
theorem ot_storeA {k b T E m : Nat} {v : Value} {cs vs : List Value} (ex : ev L x = some (.pointer (some ⟨b, 0, none⟩))) (ey : ev L y = some v)
    (hk : Fs[k]? = some (Pc.cl b cs E)) (hv : v.cells = vs.toArray) (hz : (X.P.info? T).map (·.size) = some m) (hvl : vs.length = m) (hcl : cs.length = m) (h1 : vs.all Value.oneCell' = true)
    (h : C L (Fs.set k (Pc.cl b vs E))) : OT X ⟨none, .store T x y, ty, pos, af, g⟩ L Fs C :=
  ot_storeP ex ey hk hv (hvl ▸ hz) h1 (by omega) (repl_all _ _ (by omega)) h
theorem rv_subW {t t' : TypeId} {k : IntKind} {a b : Int} {v : Value} (ex : ev L x = some (.int k a)) (ey : ev L y = some (.int k b)) (hv : Value.int k (k.wrap (a - b)) = v) : RV P K w0 n L Fs (.binOp .sub t x y t') ty v :=
  hv ▸ rv_bin ex ey fun w => by simp [eqGuard, binOp, Op.intArith, go_sem]

/-! ### what is read beside what is written -/
def SlA (S : Nat → Prop) (w : World) (A : Option Addr) (us : List Value) : Prop := us = [] ∨ ∃ b o, A = some ⟨b, o, none⟩ ∧ Cells w b o us ∧ ¬ S b
theorem SlA.r {S : Nat → Prop} {A : Option Addr} {us : List Value} (h : SlA S w A us) : SlR w A us := h.imp id fun ⟨b, o, h1, h2, _⟩ => ⟨b, o, h1, h2⟩
theorem Hd.rdA {A : Option Addr} {us : List Value} (h : Hd K w0 w Fs) (hR : SlA K w0 A us) : SlR w A us := by
  rcases hR with h1 | ⟨b, o, h1, h2, h3⟩
  · exact .inl h1
  · by_cases hu : us = []
    · exact .inl hu
    · exact .inr ⟨b, o, h1, h2.keep (h.upd.block b (h2.lt hu) h3)⟩
theorem SlA.nil {S : Nat → Prop} {A : Option Addr} : SlA S w A [] := .inl rfl
theorem SlR.a0 {A : Option Addr} {us : List Value} (h : SlR w A us) : SlA noB w A us := h.imp id fun ⟨b, o, h1, h2⟩ => ⟨b, o, h1, h2, fun x => x⟩
theorem SlA.drop {S : Nat → Prop} {A : Option Addr} {us : List Value} {l m sz : Nat} (h : SlA S w A us) (hl : us.drop (l * sz) ≠ [] → l < m) : SlA S w (sAddr A m l sz) (us.drop (l * sz)) := by
  by_cases hd : us.drop (l * sz) = []
  · exact .inl hd
  · rcases h with rfl | ⟨b, o, rfl, hc, hs⟩
    · simp at hd
    · refine .inr ⟨b, o + l * sz, sAddr_lt (hl hd), fun j u hj => ?_, hs⟩
      rw [List.getElem?_drop] at hj
      have := hc _ _ hj
      rwa [← Nat.add_assoc] at this
theorem SlR.app1 {A : Option Addr} {us vs : List Value} (h : SlR w A (us ++ vs)) : SlR w A us := by
  rcases h with h | ⟨b, o, h1, h2⟩
  · exact .inl (by have := congrArg List.length h; simp at this; exact this.1)
  · refine .inr ⟨b, o, h1, fun j u hj => h2 j u ?_⟩
    rw [List.getElem?_append_left (List.getElem?_eq_some_iff.1 hj).1]; exact hj
/-- the other pieces lie elsewhere -/
def Away (S : Nat → Prop) (w : World) (Fs : List Pc) (k : Nat) : Prop := ∀ j G, j ≠ k → Fs[j]? = some G → ∃ S', G.A S' w ∧ ∀ b, S' b → ¬ S b
theorem nthP_get : ∀ (Fs : List Pc) (k : Nat), nthP Fs k = Fs[k]?
  | [], k => by simp [nthP]
  | F :: Fs, 0 => by simp [nthP]
  | F :: Fs, k + 1 => by simp [nthP, nthP_get Fs k]
variable {f : FuncId} {args : List Value} {γ : Type} {Φ : γ → Prop} {v : γ → Value} {G : γ → List Pc}
theorem callOkS {k : Nat} (hk : Fs[k]? = some F) (h : ∀ w S, Hd X.K X.w0 w Fs → F.A S w → (∀ b, S b → b < w.heap.size ∧ (X.K b ∨ X.w0.heap.size ≤ b)) → Away S w Fs k → Calls X.P f args.toArray w fun e w' => ∃ g, e = .returned (v g) ∧ St S w w' (G g) ∧ Φ g) :
    CallOk X f args Fs Φ v (fun g => G g ++ Fs.eraseIdx k) := fun w hs => by
  have h1 := hs.pull hk
  obtain ⟨T, ⟨S1, T2, hA1, hs1, hd1, hT1⟩, hTb⟩ := h1.sep
  have hAw : Away S1 w Fs k := fun j G hj e => by
    have he : ∃ j' : Nat, (Fs.eraseIdx k)[j']? = some G := by
      rcases Nat.lt_or_ge j k with h | h
      · exact ⟨j, by rw [List.getElem?_eraseIdx_of_lt h]; exact e⟩
      · refine ⟨j - 1, ?_⟩
        rw [List.getElem?_eraseIdx_of_ge (by omega), show j - 1 + 1 = j by omega]; exact e
    obtain ⟨j', e'⟩ := he
    obtain ⟨S', h1, h2⟩ := hs1.get e'
    exact ⟨S', h1, fun b hb hb' => hd1 b hb' (h2 b hb)⟩
  refine (h w S1 hs.hd hA1 (fun b hb => ⟨(hTb b ((hT1 b).2 (.inl hb))).2, (hTb b ((hT1 b).2 (.inl hb))).1⟩) hAw).mono fun e w' ⟨g, he, hc, hΦ⟩ => ⟨g, he, ?_, hΦ⟩
  have hsz := hc.upd.size
  obtain ⟨T1, hsG, hTG⟩ := hc.sep
  have hin : ∀ b, T1 b → S1 b ∨ (w.heap.size ≤ b ∧ b < w'.heap.size) := fun b hb => (hTG b hb).1.imp id (fun x => ⟨x, (hTG b hb).2⟩)
  refine ⟨hs.upd.trans hc.upd (fun b hb hlt => ?_), _, hsG.append (hs1.keep fun b hb => hc.upd.block b (hTb b ((hT1 b).2 (.inr hb))).2 (fun x => hd1 b x hb)) (fun b h1 h2 => ?_), fun b hbb => ?_⟩
  · rcases (hTb b ((hT1 b).2 (.inl hb))).1 with h | h
    · exact h
    · omega
  · rcases hin b h1 with h | h
    · exact hd1 b h h2
    · have := (hTb b ((hT1 b).2 (.inr h2))).2; omega
  · rcases hbb with h1 | h1
    · rcases hin b h1 with h2 | h2
      · have := hTb b ((hT1 b).2 (.inl h2)); exact ⟨this.1, Nat.lt_of_lt_of_le this.2 hsz⟩
      · exact ⟨.inr (Nat.le_trans hs.upd.size h2.1), h2.2⟩
    · have := hTb b ((hT1 b).2 (.inr h1)); exact ⟨this.1, Nat.lt_of_lt_of_le this.2 hsz⟩
theorem Away.cl {S : Nat → Prop} {j k b E o : Nat} {cs us : List Value} (h : Away S w Fs k) (e : Fs[j]? = some (Pc.cl b cs E)) (hj : j ≠ k) (hh : Hd K w0 w Fs) (hu : (cs.drop o).take us.length = us) : SlA S w (some ⟨b, o, none⟩) us := by
  obtain ⟨S', hA, hd⟩ := h j _ hj e
  exact .inr ⟨b, o, rfl, Hd.cells e hu w hh, hd b ((hA.1 b).2 rfl)⟩
theorem Away.row {S : Nat → Prop} {j k n' E sz c : Nat} {A : Option Addr} {xs : List Value} (h : Away S w Fs k) (e : Fs[j]? = some (Pc.row A c E sz n' xs)) (hj : j ≠ k) : SlA S w A xs := by
  obtain ⟨S', hA, hd⟩ := h j _ hj e
  rcases hA.2.2 with ⟨h1, h2⟩ | ⟨b, cap, cur, h1, _⟩
  · subst h2; exact .inl (List.eq_nil_of_length_eq_zero (by simpa using hA.2.1))
  · simp only [Value.slice.injEq] at h1
    obtain ⟨rfl, _, _⟩ := h1
    refine .inr ⟨b, 0, rfl, fun j u hj => ?_, hd b ((hA.1 b).2 rfl)⟩
    have := hA.2.cells (g := b) rfl j u hj
    rwa [addr_add] at this
theorem Away.ro {S : Nat → Prop} {j k : Nat} {A : Option Addr} {us : List Value} (h : Away S w Fs k) (e : Fs[j]? = some (roP A us)) (hj : j ≠ k) : SlA S w A us := by
  obtain ⟨S', hA, hd⟩ := h j _ hj e
  rcases hA with ⟨h1, _⟩ | ⟨b, o, h1, h2, h3⟩
  · exact .inl h1
  · exact .inr ⟨b, o, h1, h2, hd b ((h3 b).2 rfl)⟩
/-- what lay there when the call began, and may not turn -/
theorem SlA.old {S : Nat → Prop} {A : Option Addr} {us : List Value} (hR : SlA K w0 A us) (hh : Hd K w0 w Fs) (hb : ∀ b, S b → b < w.heap.size ∧ (K b ∨ w0.heap.size ≤ b)) : SlA S w A us := by
  rcases hR with h1 | ⟨b, o, h1, h2, h3⟩
  · exact .inl h1
  · by_cases hu : us = []
    · exact .inl hu
    · have hlt := h2.lt hu
      refine .inr ⟨b, o, h1, h2.keep (hh.upd.block b hlt h3), fun hs => ?_⟩
      rcases (hb b hs).2 with h | h
      · exact h3 h
      · omega
theorem SlA.mono {S T : Nat → Prop} {A : Option Addr} {us : List Value} (h : SlA S w A us) (k : ∀ b, T b → S b) : SlA T w A us := h.imp id fun ⟨b, o, h1, h2, h3⟩ => ⟨b, o, h1, h2, fun hb => h3 (k b hb)⟩

/-! ### function values -/
theorem rv_makeFunc {fn : Fn} {capt : List Operand} {vs : List Value} (e : evs L capt = some vs) : RV P K w0 n L Fs (.makeFunc fn #[] capt.toArray) ty (.func fn #[] vs.toArray) := fun w a hs hf d pos af g => by
  have hx := evs_eval hf e
  simp only [execOp, Instr.makeFunc, List.map_toArray, hx, List.map_nil, Sem.run_bind, Sem.run_pure, Result.andThen_ok]
theorem run_callv {P : Program} {n : Nat} {a : Act} {f : FuncId} {xf : Operand} {cv : List Value} (hB : hasBody P f = true) (hfr : Fr n L a) (ef : ev L xf = some (.func (.func f) #[] cv.toArray)) {xs : List Operand} {vs : List Value} (e : evs L xs = some vs)
    {d : Option Tmp} {ats : Array TypeId} {ty : TypeId} {pos : String} {af : Array Edge} {g : Option (Nat × Bool)} (w : World) :
    (execOp a.eval ⟨d, .call { callee := .value xf, args := xs.toArray, argTypes := ats }, ty, pos, af, g⟩).run P w = .ok (.enter f (vs ++ cv).toArray) w := by
  unfold hasBody at hB
  split at hB <;> try contradiction
  rename_i fn hf
  simp only [Bool.and_eq_true, Bool.not_eq_true'] at hB
  have hx := evs_eval hfr e
  simp only [execOp, resolve, List.map_toArray, hx, hfr.ev ef]
  simp only [Deferred.ofValue, invoke, Sem.run_bind, Sem.run_pure, Result.andThen_ok, Array.empty_append, run_callFunc hf hB.1 hB.2]
  simp
theorem ot_callv {d : Nat} {f : Nat} {xf : Operand} {cv : List Value} {xs : List Operand} {vs : List Value} {ats : Array TypeId} {v : γ → Value} {H : γ → List Pc}
    (hB : hasBody X.P f = true) (ef : ev L xf = some (.func (.func f) #[] cv.toArray)) (e : evs L xs = some vs) (hc : CallOk X f (vs ++ cv) Fs Φ v H) (hd : Nat.ble (d + 1) X.n = true) (h : ∀ g, Φ g → C ((d, v g) :: L) (H g)) :
    OT X ⟨some d, .call { callee := .value xf, args := xs.toArray, argTypes := ats }, ty, pos, af, g⟩ L Fs C := fun w a hs hf N Q hN => by
  unfold Oper.wp
  rw [run_callv hB hf ef e w, Oper.upon_enter]
  refine (hc w hs).mono fun en w' hen => ?_
  obtain ⟨g, rfl, hs', hΦ⟩ := hen
  exact hN _ _ (h g hΦ) w' _ hs' (hf.put (Nat.le_of_ble_eq_true hd) _)

/-! ### bytes of a string -/
theorem ot_convSB {d : Nat} {src t e : TypeId} {s : ByteArray} {us : List Value} (hs : X.P.underlying src = some .string) (ht : X.P.underlying t = some (.slice e)) (he : X.P.underlying e = some (.int .u8)) (ex : ev L x = some (.string s)) (hu : byts s.data.toList = us)
    (hd : Nat.ble (d + 1) X.n = true) (h : ∀ b c, C ((d, .slice (some ⟨b, 0, none⟩) s.size c) :: L) (roP (some ⟨b, 0, none⟩) us :: Fs)) : OT X ⟨some d, .convert src t x, ty, pos, af, g⟩ L Fs C :=
  ot_eff (γ := Nat × Nat) (Φ := fun _ => True) (v := fun g => .slice (some ⟨g.1, 0, none⟩) s.size g.2) (H := fun g => roP (some ⟨g.1, 0, none⟩) us :: Fs) (fun w a hst hf => by
    subst hu
    refine ⟨(w.heap.size, grownCap w s.size 0 e), Lib.bytesWorld w e s, ?_, ?_, trivial⟩
    · have hr := Lib.run_convert_string_bytes (P := X.P) w src t e s hs ht he
      simp only [execOp, hf.ev ex, Sem.run_bind, hr, Result.andThen_ok, Sem.run_pure]
    · refine hst.push (S := fun b => b = w.heap.size) ⟨rfl, rfl, rfl, by rw [Lib.bytesWorld_size]; omega, fun k hk _ => Lib.bytesWorld_at_old w e s k hk⟩ (.inr ⟨w.heap.size, 0, rfl, fun j u hj => ?_, fun x => Iff.rfl⟩) fun b hb => by subst hb; rw [Lib.bytesWorld_size]; omega
      have hlt := (List.getElem?_eq_some_iff.1 hj).1
      rw [byts_len] at hlt
      have hlt' : j < s.size := by simpa using hlt
      rw [Nat.zero_add, Lib.bytesWorld_cell w e s j hlt']
      rw [← hj]
      simp [byts, List.getElem?_eq_getElem hlt, List.getD_eq_getElem?_getD]) hd fun g _ => h g.1 g.2
end Go.Bz
